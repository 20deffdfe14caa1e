/- What the law FnExactOperate of this seat says holds for every input that its row speaks of; no further condition. -/
import Derived.Test.YtiooogcjoobjnaaQFnExactOperatex13
import Derived.Lib.Strings
set_option linter.unusedVariables false
set_option linter.unusedSimpArgs false
namespace Go.Proofs.Ytiooogcjoobjnaa.Pure
open Go.RowKit Go.Proofs.Ytiooogcjoobjnaa.QFnExactOperate Go.Proofs.YtiooogcjoobjnaaW.PrintWords Go.Proofs.YtiooogcjoobjnaaW.PrintLast Go.Proofs.YtiooogcjoobjnaaW.PrintMore

theorem ev_pos {α : Type} {c : Prop} [Decidable c] {A B : Nat → Option α} {r : α} (h : c) (e : Ev A r) : Ev (fun k => if c then A k else B k) r := by
  obtain ⟨K, hK⟩ := e
  exact ⟨K, fun k hk => by simp only [if_pos h]; exact hK k hk⟩
theorem ev_neg {α : Type} {c : Prop} [Decidable c] {A B : Nat → Option α} {r : α} (h : ¬ c) (e : Ev B r) : Ev (fun k => if c then A k else B k) r := by
  obtain ⟨K, hK⟩ := e
  exact ⟨K, fun k hk => by simp only [if_neg h]; exact hK k hk⟩
theorem ev_of {α : Type} {o : Option α} {r : α} (h : o = some r) : Ev (fun _ => o) r := ⟨0, fun _ _ => h⟩
theorem ev_cast {α : Type} {g : Nat → Option α} {r r' : α} (h : r = r') (e : Ev g r) : Ev g r' := h ▸ e
theorem w64 (n : Int) (h0 : -9223372036854775808 ≤ n) (h1 : n ≤ 9223372036854775807) : wrap64 n = n := by unfold wrap64; omega
theorem dec_and (p q : Prop) [Decidable p] [Decidable q] : decide (p ∧ q) = (decide p && decide q) := by
  by_cases hp : p <;> by_cases hq : q <;> simp [hp, hq]
theorem indI {P : S28 → Prop} (h : ∀ a b s l, (∀ y ∈ l, P y) → P ⟨a, b, s, l⟩) : ∀ x, P x := by
  intro x
  refine S28.rec (motive_1 := P) (motive_2 := fun l => ∀ y ∈ l, P y) ?_ ?_ ?_ x
  · intro a b s l hl
    exact h a b s l hl
  · intro y hy; cases hy
  · intro x r hx hr y hy
    rcases List.mem_cons.1 hy with rfl | hy
    · exact hx
    · exact hr y hy
mutual
def budI : S28 → Nat
  | ⟨_, _, s, l⟩ => s.size + budIL l
def budIL : List S28 → Nat
  | [] => 0
  | x :: r => 1 + budI x + budIL r
end
theorem budI_mk (a b : Int) (s : ByteArray) (l : List S28) : budI ⟨a, b, s, l⟩ = s.size + budIL l := by rw [budI]
theorem budIL_len : ∀ l : List S28, l.length ≤ budIL l
  | [] => by simp [budIL]
  | x :: r => by
    have := budIL_len r
    rw [budIL, List.length_cons]; omega
theorem rdI_mem (l : List S28) (i : Nat) (h : i < l.length) : rd_T28 l i ∈ l := by
  unfold rd_T28
  simp [List.getD_eq_getElem?_getD, List.getElem?_eq_getElem h]
theorem dropI (l : List S28) (i : Nat) (h : i < l.length) : l.drop i = rd_T28 l i :: l.drop (i + 1) := by
  rw [List.drop_eq_getElem_cons h]
  unfold rd_T28
  simp [List.getElem?_eq_getElem h]
theorem budI_mem : ∀ (l : List S28) (x : S28), x ∈ l → budI x + 1 ≤ budIL l
  | [], x, h => by cases h
  | y :: r, x, h => by
    rw [budIL]
    rcases List.mem_cons.1 h with rfl | h
    · omega
    · have := budI_mem r x h; omega
theorem etaI (x : S28) : (⟨x.f0, x.f1, x.f2, x.f3⟩ : S28) = x := by cases x; rfl
theorem indL {P : S24 → Prop} (h : ∀ a b s l, (∀ y ∈ l, P y) → P ⟨a, b, s, l⟩) : ∀ x, P x := by
  intro x
  refine S24.rec (motive_1 := P) (motive_2 := fun l => ∀ y ∈ l, P y) ?_ ?_ ?_ x
  · intro a b s l hl
    exact h a b s l hl
  · intro y hy; cases hy
  · intro x r hx hr y hy
    rcases List.mem_cons.1 hy with rfl | hy
    · exact hx
    · exact hr y hy
mutual
def budL : S24 → Nat
  | ⟨_, _, s, l⟩ => s.size + (l.length + budLE l)
def budLE : List S24 → Nat
  | [] => 0
  | x :: r => budL x + budLE r
end
mutual
def cv : S24 → S28
  | ⟨a, b, s, l⟩ => ⟨a, b, s, cvL l⟩
def cvL : List S24 → List S28
  | [] => []
  | x :: r => cv x :: cvL r
end
theorem cvL_len : ∀ l, (cvL l).length = l.length
  | [] => rfl
  | x :: r => by rw [cvL, List.length_cons, List.length_cons, cvL_len r]
theorem cvL_map : ∀ l, cvL l = l.map cv
  | [] => rfl
  | x :: r => by rw [cvL, List.map_cons, cvL_map r]
mutual
theorem bud_cv : ∀ x, budI (cv x) = budL x
  | ⟨a, b, s, l⟩ => by rw [cv, budI, budL, bud_cvL l]
theorem bud_cvL : ∀ l, budIL (cvL l) = l.length + budLE l
  | [] => by rw [cvL, budIL, budLE]; rfl
  | x :: r => by rw [cvL, budIL, budLE, bud_cv x, bud_cvL r, List.length_cons]; omega
end
theorem rdL_mem (l : List S24) (i : Nat) (h : i < l.length) : rd_T24 l i ∈ l := by
  unfold rd_T24
  simp [List.getD_eq_getElem?_getD, List.getElem?_eq_getElem h]
theorem dropL (l : List S24) (i : Nat) (h : i < l.length) : l.drop i = rd_T24 l i :: l.drop (i + 1) := by
  rw [List.drop_eq_getElem_cons h]
  unfold rd_T24
  simp [List.getElem?_eq_getElem h]
theorem wfL_mem (l : List S24) (h : wfl24 l) : ∀ x ∈ l, wf24 x := (wfl24_iff l).1 h
theorem wfL_mk {a b : Int} {s : ByteArray} {l : List S24} (h : wf24 ⟨a, b, s, l⟩) : (Lit.int .i64 a).wf = true ∧ (Lit.int .i64 b).wf = true ∧ (s.size : Int) ≤ 9223372036854775807 ∧ (l.length : Int) ≤ 9223372036854775807 ∧ ∀ x ∈ l, wf24 x := by
  unfold wf24 at h
  obtain ⟨h0, h1, h2, h3, h4⟩ := h
  unfold maxLen at h2 h3
  exact ⟨h0, h1, by omega, by omega, wfL_mem l h4⟩
def szRes (left : Int) (b : Nat) : Int := if (b : Int) ≤ left then left - b else -1
theorem sz_loop (l : List S24) (hl : (l.length : Int) ≤ 9223372036854775807)
    (h : ∀ y ∈ l, ∀ left : Int, 0 ≤ left → left ≤ 1048576 → Ev (fun k => laws_szTerm.f k y.f0 y.f1 y.f2 y.f3 left) (szRes left (budL y))) (d : Nat) :
    ∀ (i : Nat) (left : Int), i + d = l.length → 0 ≤ left → left ≤ 1048576 → Ev (fun k => laws_szTermS.l0 k l left i) (szRes left (budLE (l.drop i))) := by
  induction d with
  | zero =>
    intro i left hi h0 h1
    refine Ev.step (f := fun _ => some left) (fun k => ?_) (ev_cast ?_ (Ev.now _))
    · simp only [laws_szTermS.l0]; rw [if_neg (by omega)]
    · rw [List.drop_eq_nil_of_le (by omega), budLE]; unfold szRes; rw [if_pos (by omega)]; omega
  | succ d ih =>
    intro i left hi h0 h1
    have hlt : i < l.length := by omega
    have e := h _ (rdL_mem l i hlt) left h0 h1
    rw [dropL l i hlt, budLE]
    generalize hy : rd_T24 l i = y at *
    refine Ev.step (f := fun k => (laws_szTerm.f k y.f0 y.f1 y.f2 y.f3 left).bind fun t102 => (if t102 < 0 then (some (-1)) else (laws_szTermS.l0 k l t102 (wrap64 ((i : Int) + 1))))) (fun k => ?_) (Ev.bind e ?_)
    · simp only [laws_szTermS.l0]; rw [if_pos (by omega), if_pos (by omega), hy]
    · unfold szRes
      by_cases hb : (budL y : Int) ≤ left
      · rw [if_pos hb]
        refine ev_neg (by omega) ?_
        rw [w64 _ (by omega) (by omega)]
        refine ev_cast ?_ (ih (i + 1) (left - budL y) (by omega) (by omega) (by omega))
        unfold szRes
        by_cases hc : (budLE (l.drop (i + 1)) : Int) ≤ left - budL y
        · rw [if_pos hc, if_pos (by omega)]; omega
        · rw [if_neg hc, if_neg (by omega)]
      · rw [if_neg hb, if_neg (by omega)]
        exact ev_pos (by omega) (Ev.now _)
theorem szS_of (l : List S24) (hl : (l.length : Int) ≤ 9223372036854775807)
    (h : ∀ y ∈ l, ∀ left : Int, 0 ≤ left → left ≤ 1048576 → Ev (fun k => laws_szTerm.f k y.f0 y.f1 y.f2 y.f3 left) (szRes left (budL y))) (left : Int) (h0 : 0 ≤ left) (h1 : left ≤ 1048576) :
    Ev (fun k => laws_szTermS.f k l left) (szRes left (l.length + budLE l)) := by
  by_cases hc : left - (l.length : Int) < 0
  · refine Ev.step (f := fun _ => some (-1)) (fun k => ?_) (ev_cast ?_ (Ev.now _))
    · simp only [laws_szTermS.f]; rw [w64 _ (by omega) (by omega), if_pos hc]
    · unfold szRes; rw [if_neg (by omega)]
  · refine Ev.step (fun k => ?_) (ev_cast ?_ (sz_loop l hl h l.length 0 (left - l.length) (by omega) (by omega) (by omega)))
    · simp only [laws_szTermS.f]; rw [w64 _ (by omega) (by omega), if_neg hc]; rfl
    · rw [List.drop_zero]
      unfold szRes
      by_cases hb : (budLE l : Int) ≤ left - l.length
      · rw [if_pos hb, if_pos (by omega)]; omega
      · rw [if_neg hb, if_neg (by omega)]
theorem sz_all : ∀ x, wf24 x → ∀ left : Int, 0 ≤ left → left ≤ 1048576 → Ev (fun k => laws_szTerm.f k x.f0 x.f1 x.f2 x.f3 left) (szRes left (budL x)) := by
  refine indL ?_
  intro a b s l ih hw left h0 h1
  obtain ⟨_, _, hs, hl, hm⟩ := wfL_mk hw
  simp only []
  by_cases hc : left - (s.size : Int) < 0
  · refine Ev.step (f := fun _ => some (-1)) (fun k => ?_) (ev_cast ?_ (Ev.now _))
    · simp only [laws_szTerm.f]; rw [w64 _ (by omega) (by omega), if_pos hc]
    · rw [budL]; unfold szRes; rw [if_neg (by omega)]
  · have e := szS_of l hl (fun y hy => ih y hy (hm y hy)) (left - s.size) (by omega) (by omega)
    refine Ev.step (f := fun k => (laws_szTermS.f k l (left - (s.size : Int))).bind fun t104 => (if t104 < 0 then (some (-1)) else (some t104))) (fun k => ?_) (Ev.bind e ?_)
    · simp only [laws_szTerm.f]; rw [w64 _ (by omega) (by omega), if_neg hc]
    · rw [budL]
      unfold szRes
      by_cases hb : ((l.length + budLE l : Nat) : Int) ≤ left - s.size
      · have hb2 : ((s.size + (l.length + budLE l) : Nat) : Int) ≤ left := by omega
        rw [if_pos hb, if_pos hb2]
        exact ev_neg (by omega) (ev_cast (by omega) (Ev.now _))
      · have hb2 : ¬ ((s.size + (l.length + budLE l) : Nat) : Int) ≤ left := by omega
        rw [if_neg hb, if_neg hb2]
        exact ev_pos (by omega) (Ev.now _)
theorem szTerm_ev (a b : Int) (s : ByteArray) (l : List S24) (hw : wf24 ⟨a, b, s, l⟩) (left : Int) (h0 : 0 ≤ left) (h1 : left ≤ 1048576) : Ev (fun k => laws_szTerm.f k a b s l left) (szRes left (budL ⟨a, b, s, l⟩)) := sz_all _ hw left h0 h1
theorem set_takeI (l : List S28) (i : Nat) (v : S28) (h : i < l.length) : (l.set i v).take (i + 1) = l.take i ++ [v] := by
  rw [List.take_succ_eq_append_getElem (by simpa using h)]
  simp [List.take_set]
  rw [List.set_eq_of_length_le (by simp; omega)]
theorem to_loop (l : List S24) (hl : (l.length : Int) ≤ 1048576)
    (h : ∀ y ∈ l, Ev (fun k => laws_toTerm.f k y.f0 y.f1 y.f2 y.f3) (y.f0, y.f1, y.f2, cvL y.f3)) (d : Nat) :
    ∀ (i : Nat) (x : List S28), i + d = l.length → x.length = l.length → x.take i = (cvL l).take i → Ev (fun k => laws_toTermS.l0 k l x i) (cvL l) := by
  induction d with
  | zero =>
    intro i x hi hx ht
    refine Ev.step (f := fun _ => some x) (fun k => ?_) (ev_cast ?_ (Ev.now _))
    · simp only [laws_toTermS.l0]; rw [if_neg (by omega)]
    · rwa [List.take_of_length_le (by omega), List.take_of_length_le (by rw [cvL_len]; omega)] at ht
  | succ d ih =>
    intro i x hi hx ht
    have hlt : i < l.length := by omega
    have e := h _ (rdL_mem l i hlt)
    have hn := ih (i + 1) (x.set i (cv (rd_T24 l i))) (by omega) (by simpa using hx) (by
      rw [set_takeI _ _ _ (by omega), ht, List.take_succ_eq_append_getElem (by rw [cvL_len]; omega)]
      congr 1
      simp only [cvL_map, List.getElem_map]
      unfold rd_T24
      simp [List.getElem?_eq_getElem hlt])
    generalize hy : rd_T24 l i = y at *
    refine Ev.step (f := fun k => (laws_toTerm.f k y.f0 y.f1 y.f2 y.f3).bind fun bt112 => (laws_toTermS.l0 k l (x.set i (⟨bt112.1, bt112.2.1, bt112.2.2.1, bt112.2.2.2⟩ : S28)) (wrap64 ((i : Int) + 1)))) (fun k => ?_) (Ev.bind e ?_)
    · simp only [laws_toTermS.l0]; rw [if_pos (by omega), if_pos (by omega), hy]
      congr 1
      funext bt
      rw [if_pos (by omega)]
      rfl
    · rw [w64 _ (by omega) (by omega)]
      have ec : (⟨y.f0, y.f1, y.f2, cvL y.f3⟩ : S28) = cv y := by cases y; rw [cv]
      simp only [ec]
      exact hn
theorem toS_of (l : List S24) (hl : (l.length : Int) ≤ 1048576)
    (h : ∀ y ∈ l, Ev (fun k => laws_toTerm.f k y.f0 y.f1 y.f2 y.f3) (y.f0, y.f1, y.f2, cvL y.f3)) : Ev (fun k => laws_toTermS.f k l) (cvL l) := by
  refine Ev.step (fun k => ?_) (to_loop l hl h l.length 0 (List.replicate l.length z28) (by omega) (by simp) (by simp))
  simp only [laws_toTermS.f]; rw [if_pos (by omega), if_pos (by omega)]
  simp
theorem budL_mem : ∀ (l : List S24) (x : S24), x ∈ l → budL x ≤ budLE l
  | [], x, h => by cases h
  | y :: r, x, h => by
    rw [budLE]
    rcases List.mem_cons.1 h with rfl | h
    · omega
    · have := budL_mem r x h; omega
theorem to_all : ∀ x, (budL x : Int) ≤ 1048576 → Ev (fun k => laws_toTerm.f k x.f0 x.f1 x.f2 x.f3) (x.f0, x.f1, x.f2, cvL x.f3) := by
  refine indL ?_
  intro a b s l ih hb
  rw [budL] at hb
  refine Ev.step (f := fun k => (laws_toTermS.f k l).bind fun t122 => (some (a, b, s, t122))) (fun k => ?_) (Ev.bind (toS_of l (by omega) (fun y hy => ih y hy (by have := budL_mem l y hy; omega))) (Ev.now _))
  simp only [laws_toTerm.f]
theorem toTerm_ev (a b : Int) (s : ByteArray) (l : List S24) (hb : (budL ⟨a, b, s, l⟩ : Int) ≤ 1048576) : Ev (fun k => laws_toTerm.f k a b s l) (a, b, s, cvL l) := to_all _ hb
theorem eq_loop (l : List S28) (hl : (l.length : Int) ≤ 4194304)
    (h : ∀ y ∈ l, Ev (fun k => laws_eqTerm.f k y.f0 y.f1 y.f2 y.f3 y.f0 y.f1 y.f2 y.f3) true) (d : Nat) : ∀ (i : Nat), i + d = l.length → Ev (fun k => laws_eqTermS.l0 k l l i) true := by
  induction d with
  | zero =>
    intro i hi
    refine Ev.step (f := fun _ => some true) (fun k => ?_) (Ev.now _)
    simp only [laws_eqTermS.l0]; rw [if_neg (by omega)]
  | succ d ih =>
    intro i hi
    have hlt : i < l.length := by omega
    have e := h _ (rdI_mem l i hlt)
    have hn := ih (i + 1) (by omega)
    generalize hy : rd_T28 l i = y at *
    refine Ev.step (f := fun k => (laws_eqTerm.f k y.f0 y.f1 y.f2 y.f3 y.f0 y.f1 y.f2 y.f3).bind fun t131 => (if t131 = true then (laws_eqTermS.l0 k l l (wrap64 ((i : Int) + 1))) else (some false))) (fun k => ?_) (Ev.bind e (ev_pos rfl ?_))
    · simp only [laws_eqTermS.l0]; rw [if_pos (by omega), if_pos (by omega), if_pos (by omega), hy]
    · rw [w64 _ (by omega) (by omega)]; exact hn
theorem eqS_of (l : List S28) (hl : (l.length : Int) ≤ 4194304) (h : ∀ y ∈ l, Ev (fun k => laws_eqTerm.f k y.f0 y.f1 y.f2 y.f3 y.f0 y.f1 y.f2 y.f3) true) : Ev (fun k => laws_eqTermS.f k l l) true := by
  refine Ev.step (fun k => ?_) (eq_loop l hl h l.length 0 (by omega))
  simp only [laws_eqTermS.f]; rw [if_pos trivial]; rfl
theorem eq_all : ∀ x, (budI x : Int) ≤ 4194304 → Ev (fun k => laws_eqTerm.f k x.f0 x.f1 x.f2 x.f3 x.f0 x.f1 x.f2 x.f3) true := by
  refine indI ?_
  intro a b s l ih hb
  rw [budI] at hb
  have hl := budIL_len l
  refine Ev.step (f := fun k => (laws_eqTermS.f k l l).bind fun t134 => (if t134 = true then (some true) else (some false))) (fun k => ?_) (Ev.bind (eqS_of l (by omega) (fun y hy => ih y hy (by have := budI_mem l y hy; omega))) (ev_pos rfl (Ev.now _)))
  simp only [laws_eqTerm.f]
  simp
theorem eqTerm_ev (a b : Int) (s : ByteArray) (l : List S28) (hb : (budI ⟨a, b, s, l⟩ : Int) ≤ 4194304) : Ev (fun k => laws_eqTerm.f k a b s l a b s l) true := eq_all _ hb
def lowB (c : Int) : Bool := decide (97 ≤ c) && decide (c ≤ 122)
def digB (c : Int) : Bool := decide (48 ≤ c) && decide (c ≤ 57)
def atomFrom (s : ByteArray) (i : Nat) : Bool := (List.range' i (s.size - i)).all fun j => lowB (bt s j) || (!decide (j = 0) && (digB (bt s j) || decide (bt s j = 95)))
def atomOkM (s : ByteArray) : Bool := atomFrom s 0 && (decide (1 ≤ (s.size : Int)) && decide ((s.size : Int) ≤ 20))
theorem atomFrom_end (s : ByteArray) (i : Nat) (h : s.size ≤ i) : atomFrom s i = true := by
  unfold atomFrom
  rw [Nat.sub_eq_zero_of_le h]; rfl
theorem atomFrom_step (s : ByteArray) (i : Nat) (h : i < s.size) : atomFrom s i = ((lowB (bt s i) || (!decide (i = 0) && (digB (bt s i) || decide (bt s i = 95)))) && atomFrom s (i + 1)) := by
  unfold atomFrom
  obtain ⟨n, hn⟩ : ∃ n, s.size - i = n + 1 := ⟨s.size - i - 1, by omega⟩
  rw [hn, show s.size - (i + 1) = n from by omega, List.range'_succ]
  simp [List.all_cons]
theorem wbt (s : ByteArray) (i : Int) : wrap64 (bt s i) = bt s i := by
  have := bt_range s i
  exact w64 _ (by omega) (by omega)
def opL (l : List UInt8) : Bool := decide (l = [43]) || (decide (l = [45]) || (decide (l = [42]) || (decide (l = [61, 61]) || decide (l = [60]))))
mutual
def sameM : S28 → S28 → Bool
  | ⟨a, b, s, l⟩, y => decide (a = y.f0) && (decide (b = y.f1) && (decide (s.toList = y.f2.toList) && sameML l y.f3))
def sameML : List S28 → List S28 → Bool
  | [], l => l.isEmpty
  | x :: r, l => match l with
    | [] => false
    | y :: r2 => sameM x y && sameML r r2
end
theorem sameML_len : ∀ l m, sameML l m = true → l.length = m.length
  | [], m, h => by rw [sameML] at h; cases m <;> simp_all
  | x :: r, [], h => by rw [sameML] at h; cases h
  | x :: r, y :: r2, h => by
    rw [sameML, Bool.and_eq_true] at h
    rw [List.length_cons, List.length_cons, sameML_len r r2 h.2]
mutual
def countM : S28 → Nat
  | ⟨_, _, _, l⟩ => 1 + countML l
def countML : List S28 → Nat
  | [] => 0
  | x :: r => countM x + countML r
end
mutual
theorem count_bud : ∀ x, countM x ≤ 1 + budI x
  | ⟨a, b, s, l⟩ => by rw [countM, budI]; have := countL_bud l; omega
theorem countL_bud : ∀ l, countML l ≤ budIL l
  | [] => by rw [countML]; omega
  | x :: r => by rw [countML, budIL]; have := count_bud x; have := countL_bud r; omega
end
def noText (s : ByteArray) : Bool := decide (s.toList = ([] : List UInt8))
def shapeM (a b : Int) (s : ByteArray) (l : List S28) : Bool :=
  if a = 1 then (decide (-1000000000000 ≤ b) && decide (b ≤ 1000000000000)) && (noText s && ((l.length : Int) == 0))
  else if a = 2 then atomOkM s && (decide (b = 0) && ((l.length : Int) == 0))
  else if a = 3 then (decide (0 ≤ b) && decide (b ≤ 1000000)) && (noText s && ((l.length : Int) == 0))
  else if a = 4 then decide (b = 0) && (noText s && decide ((l.length : Int) ≤ 20))
  else if a = 5 then decide (b = 0) && (noText s && decide ((l.length : Int) ≤ 60))
  else false
mutual
def goodM : S28 → Nat → Bool
  | ⟨a, b, s, l⟩, n => match n with
    | 0 => false
    | n + 1 => shapeM a b s l && goodML l n
def goodML : List S28 → Nat → Bool
  | [], _ => true
  | x :: r, n => goodM x n && goodML r n
end
def termOkM (x : S28) : Bool := goodM x 8 && decide (countM x ≤ 300)
theorem count_pos (x : S28) : 1 ≤ countM x := by
  cases x; rw [countM]; omega
theorem getDG {α : Type} (z : α) (l : List α) (i : Nat) (h : i < l.length) : l.getD ((i : Int)).toNat z = l[i] := by
  simp [List.getD_eq_getElem?_getD, List.getElem?_eq_getElem h]
theorem rdIx2 (l : List S28) (i : Nat) (h : i < l.length) : rd_T28 l (i : Int) = l[i] := getDG _ l i h
theorem good_mk {a b : Int} {s : ByteArray} {l : List S28} {n : Nat} (h : goodM ⟨a, b, s, l⟩ n = true) : ∃ m, n = m + 1 ∧ shapeM a b s l = true ∧ goodML l m = true := by
  cases n with
  | zero => rw [goodM] at h; cases h
  | succ m =>
    rw [goodM, Bool.and_eq_true] at h
    exact ⟨m, rfl, h.1, h.2⟩
theorem goodL_mem : ∀ (l : List S28) (n : Nat), goodML l n = true → ∀ y ∈ l, goodM y n = true
  | [], _, _, y, hy => by cases hy
  | x :: r, n, h, y, hy => by
    rw [goodML, Bool.and_eq_true] at h
    rcases List.mem_cons.1 hy with rfl | hy
    · exact h.1
    · exact goodL_mem r n h.2 y hy
theorem noText_eq {s : ByteArray} (h : noText s = true) : s = ⟨#[]⟩ := by
  unfold noText at h
  rw [decide_eq_true_eq, Go.Lib.toList_data] at h
  apply ByteArray.ext
  exact Array.toList_inj.1 h
theorem len0_eq {l : List S28} (h : ((l.length : Int) == 0) = true) : l = [] := by
  rw [beq_iff_eq] at h
  exact List.eq_nil_of_length_eq_zero (by omega)
/-- What a right term of a kind is. -/
theorem shape_cases {a b : Int} {s : ByteArray} {l : List S28} (h : shapeM a b s l = true) :
    (a = 1 ∧ -1000000000000 ≤ b ∧ b ≤ 1000000000000 ∧ s = ⟨#[]⟩ ∧ l = []) ∨ (a = 2 ∧ b = 0 ∧ atomOkM s = true ∧ l = []) ∨ (a = 3 ∧ 0 ≤ b ∧ b ≤ 1000000 ∧ s = ⟨#[]⟩ ∧ l = []) ∨ ((a = 4 ∨ a = 5) ∧ b = 0 ∧ s = ⟨#[]⟩ ∧ l.length ≤ 60) := by
  unfold shapeM at h
  by_cases h1 : a = 1
  · rw [if_pos h1] at h
    simp only [Bool.and_eq_true, decide_eq_true_eq] at h
    exact .inl ⟨h1, h.1.1, h.1.2, noText_eq h.2.1, len0_eq h.2.2⟩
  rw [if_neg h1] at h
  by_cases h2 : a = 2
  · rw [if_pos h2] at h
    simp only [Bool.and_eq_true, decide_eq_true_eq] at h
    exact .inr (.inl ⟨h2, h.2.1, h.1, len0_eq h.2.2⟩)
  rw [if_neg h2] at h
  by_cases h3 : a = 3
  · rw [if_pos h3] at h
    simp only [Bool.and_eq_true, decide_eq_true_eq] at h
    exact .inr (.inr (.inl ⟨h3, h.1.1, h.1.2, noText_eq h.2.1, len0_eq h.2.2⟩))
  rw [if_neg h3] at h
  by_cases h4 : a = 4
  · rw [if_pos h4] at h
    simp only [Bool.and_eq_true, decide_eq_true_eq] at h
    exact .inr (.inr (.inr ⟨.inl h4, h.1, noText_eq h.2.1, by omega⟩))
  rw [if_neg h4] at h
  by_cases h5 : a = 5
  · rw [if_pos h5] at h
    simp only [Bool.and_eq_true, decide_eq_true_eq] at h
    exact .inr (.inr (.inr ⟨.inr h5, h.1, noText_eq h.2.1, by omega⟩))
  rw [if_neg h5] at h
  cases h
def cI (x y : Int) : Int := if x < y then -1 else if x > y then 1 else 0
def cB (s t : List UInt8) : Int := if Op.bytesLess s t = true then -1 else if Op.bytesLess t s = true then 1 else 0
mutual
def cmpM : S28 → S28 → Int
  | ⟨a, b, s, l⟩, y => if a = y.f0 then (if a = 1 ∨ a = 3 then cI b y.f1 else if a = 2 then cB s.toList y.f2.toList else if a = 4 then (if l.length = y.f3.length then cmpL l y.f3 else cI l.length y.f3.length) else if a = 5 then cmpL l y.f3 else 0) else cI a y.f0
def cmpL : List S28 → List S28 → Int
  | [], l => if l.isEmpty then 0 else -1
  | x :: r, l => match l with
    | [] => 1
    | y :: r2 => if cmpM x y = 0 then cmpL r r2 else cmpM x y
end
theorem cI_neg (x y : Int) : cI x y < 0 ↔ x < y := by unfold cI; split <;> (try split) <;> omega
theorem cI_zero {x y : Int} (h : cI x y = 0) : x = y := by unfold cI at h; split at h <;> (try split at h) <;> omega
theorem u8_lt (a b : UInt8) : a < b ↔ a.toNat < b.toNat := UInt8.lt_iff_toNat_lt
theorem bl_irr : ∀ s, Op.bytesLess s s = false
  | [] => rfl
  | a :: x => by
    rw [Op.bytesLess, bl_irr x]
    have : ¬ a < a := by rw [u8_lt]; omega
    simp [this]
theorem bl_cons (a b : UInt8) (x y : List UInt8) : Op.bytesLess (a :: x) (b :: y) = true ↔ a.toNat < b.toNat ∨ (a.toNat = b.toNat ∧ Op.bytesLess x y = true) := by
  rw [Op.bytesLess, Bool.or_eq_true, Bool.and_eq_true, decide_eq_true_eq, u8_lt, beq_iff_eq, ← UInt8.toNat_inj]
theorem bl_tri : ∀ s t, ¬ Op.bytesLess s t = true → ¬ Op.bytesLess t s = true → s = t
  | [], [], _, _ => rfl
  | [], _ :: _, h, _ => absurd rfl h
  | _ :: _, [], _, h => absurd rfl h
  | a :: x, b :: y, h1, h2 => by
    rw [bl_cons] at h1 h2
    have e : a.toNat = b.toNat := by omega
    rw [UInt8.toNat_inj.1 e, bl_tri x y (fun h => h1 (.inr ⟨e, h⟩)) (fun h => h2 (.inr ⟨e.symm, h⟩))]
theorem cB_neg (s t : List UInt8) : cB s t < 0 ↔ Op.bytesLess s t = true := by
  unfold cB
  by_cases h : Op.bytesLess s t = true
  · rw [if_pos h]; simp [h]
  · rw [if_neg h]
    split <;> simp [h]
theorem cB_zero {s t : List UInt8} (h : cB s t = 0) : s = t := by
  unfold cB at h
  by_cases h1 : Op.bytesLess s t = true
  · rw [if_pos h1] at h; omega
  · rw [if_neg h1] at h
    by_cases h2 : Op.bytesLess t s = true
    · rw [if_pos h2] at h; omega
    · exact bl_tri s t h1 h2
theorem str_ext {s t : ByteArray} (h : s.toList = t.toList) : s = t := by
  rw [Go.Lib.toList_data, Go.Lib.toList_data] at h
  exact ByteArray.ext (Array.toList_inj.1 h)
theorem cmpL_zero : ∀ (l : List S28), (∀ x ∈ l, ∀ n, goodM x n = true → ∀ y m, goodM y m = true → cmpM x y = 0 → x = y) → ∀ (m : List S28) (n n2 : Nat), (∀ x ∈ l, goodM x n = true) → (∀ y ∈ m, goodM y n2 = true) → cmpL l m = 0 → l = m
  | [], _, [], _, _, _, _, _ => rfl
  | [], _, _ :: _, _, _, _, _, h => by rw [cmpL] at h; simp at h
  | _ :: _, _, [], _, _, _, _, h => by rw [cmpL] at h; simp at h
  | x :: r, hx, y :: m, n, n2, h1, h2, h => by
    rw [cmpL] at h
    by_cases h0 : cmpM x y = 0
    · rw [if_pos h0] at h
      rw [hx x List.mem_cons_self n (h1 x List.mem_cons_self) y n2 (h2 y List.mem_cons_self) h0, cmpL_zero r (fun z hz => hx z (List.mem_cons_of_mem _ hz)) m n n2 (fun z hz => h1 z (List.mem_cons_of_mem _ hz)) (fun z hz => h2 z (List.mem_cons_of_mem _ hz)) h]
    · rw [if_neg h0] at h
      exact absurd h h0
theorem cmp_zero : ∀ x n, goodM x n = true → ∀ y m, goodM y m = true → cmpM x y = 0 → x = y := by
  refine indI (fun a b s l ih n hg y m hy h => ?_)
  obtain ⟨a2, b2, s2, l2⟩ := y
  obtain ⟨n1, rfl, hs, hl⟩ := good_mk hg
  obtain ⟨m1, rfl, hs2, hl2⟩ := good_mk hy
  rw [cmpM] at h
  simp only at h
  have ha : a = a2 := by
    by_cases e : a = a2
    · exact e
    · rw [if_neg e] at h; exact cI_zero h
  subst ha
  rw [if_pos rfl] at h
  have hL := cmpL_zero l ih l2 n1 m1 (goodL_mem l n1 hl) (goodL_mem l2 m1 hl2)
  rcases shape_cases hs with ⟨rfl, _, _, rfl, rfl⟩ | ⟨rfl, rfl, _, rfl⟩ | ⟨rfl, _, _, rfl, rfl⟩ | ⟨h45, rfl, rfl, _⟩
  · rcases shape_cases hs2 with ⟨_, _, _, rfl, rfl⟩ | ⟨q, _⟩ | ⟨q, _⟩ | ⟨q, _⟩
    · rw [if_pos (by decide)] at h; rw [cI_zero h]
    · omega
    · omega
    · omega
  · rcases shape_cases hs2 with ⟨q, _⟩ | ⟨_, rfl, _, rfl⟩ | ⟨q, _⟩ | ⟨q, _⟩
    · omega
    · rw [if_neg (by decide), if_pos rfl] at h; rw [str_ext (cB_zero h)]
    · omega
    · omega
  · rcases shape_cases hs2 with ⟨q, _⟩ | ⟨q, _⟩ | ⟨_, _, _, rfl, rfl⟩ | ⟨q, _⟩
    · omega
    · omega
    · rw [if_pos (by decide)] at h; rw [cI_zero h]
    · omega
  · rcases shape_cases hs2 with ⟨q, _⟩ | ⟨q, _⟩ | ⟨q, _⟩ | ⟨_, rfl, rfl, _⟩
    · omega
    · omega
    · omega
    · rw [if_neg (by omega), if_neg (by omega)] at h
      rcases h45 with rfl | rfl
      · rw [if_pos rfl] at h
        by_cases hn : l.length = l2.length
        · rw [if_pos hn] at h; rw [hL h]
        · rw [if_neg hn] at h
          have := cI_zero h
          omega
      · rw [if_neg (by decide), if_pos rfl] at h; rw [hL h]
mutual
theorem cmp_refl : ∀ x, cmpM x x = 0
  | ⟨a, b, s, l⟩ => by
    have h1 : ∀ z, cI z z = 0 := fun z => by unfold cI; rw [if_neg (by omega), if_neg (by omega)]
    have h2 : cB s.toList s.toList = 0 := by unfold cB; rw [bl_irr]; rfl
    rw [cmpM, if_pos rfl, if_pos rfl, h1, h2, cmpL_refl l]
    split
    · rfl
    · split
      · rfl
      · split
        · rfl
        · split <;> rfl
theorem cmpL_refl : ∀ l, cmpL l l = 0
  | [] => by rw [cmpL]; rfl
  | x :: r => by rw [cmpL, cmp_refl x, cmpL_refl r]; rfl
end
theorem evT {α : Type} {c : Prop} [Decidable c] {A B : Nat → Option α} {r s : α} (h : c) (e : Ev A r) : Ev (fun k => if c then A k else B k) (if c then r else s) := ev_cast (if_pos h).symm (ev_pos h e)
theorem evF {α : Type} {c : Prop} [Decidable c] {A B : Nat → Option α} {r s : α} (h : ¬ c) (e : Ev B s) : Ev (fun k => if c then A k else B k) (if c then r else s) := ev_cast (if_neg h).symm (ev_neg h e)
abbrev OT := Int × Int × ByteArray × List S28 × Int
def zeroT (c : Int) : OT := (0, 0, ⟨#[]⟩, [], c)
def numT (n : Int) : OT := (1, n, ⟨#[]⟩, [], 0)
def boolT (b : Bool) : OT := if b = true then (2, 0, ⟨#[116, 114, 117, 101]⟩, [], 0) else (2, 0, ⟨#[102, 97, 108, 115, 101]⟩, [], 0)
abbrev boolS (b : Bool) : OT := boolT b
def rngT (n : Int) : OT := if -1000000000000 ≤ n ∧ n ≤ 1000000000000 then numT n else zeroT 3
def arithM (op : List UInt8) (a b : Int) : OT := if op = [43] then rngT (a + b) else if op = [45] then rngT (a - b) else rngT (a * b)
def operG (op : List UInt8) (x y : S28) : OT := if op = [61, 61] then boolT (sameM x y) else if op = [60] then boolT (decide (cmpM x y < 0)) else if x.f0 = 1 ∧ y.f0 = 1 then arithM op x.f1 y.f1 else zeroT 3
def operM (op : List UInt8) (x y : S28) : OT := if opL op = true then if termOkM x = true then if termOkM y = true then operG op x y else zeroT 1 else zeroT 1 else zeroT 1
theorem rng_and (n : Int) : (decide (-1000000000000 ≤ n) && decide (n ≤ 1000000000000)) = decide (-1000000000000 ≤ n ∧ n ≤ 1000000000000) := (dec_and _ _).symm
theorem rngT_ev (n : Int) : Ev (fun _ => if (decide (-1000000000000 ≤ n) && decide (n ≤ 1000000000000)) = true then some (numT n) else some (zeroT 3)) (rngT n) := by
  unfold rngT
  rw [rng_and]
  by_cases h : -1000000000000 ≤ n ∧ n ≤ 1000000000000
  · exact ev_cast (if_pos h).symm (ev_pos (decide_eq_true h) (Ev.now _))
  · exact ev_cast (if_neg h).symm (ev_neg (by rw [decide_eq_false h]; decide) (Ev.now _))
theorem abs_mul_lt (a b : Int) (ha : -1000000000000 ≤ a ∧ a ≤ 1000000000000) (hb : -1000000000000 ≤ b ∧ b ≤ 1000000000000) (h0 : b ≠ 0) (A B : Int) (hA : A = (a.natAbs : Int)) (hB : B = (b.natAbs : Int)) :
    A > 1000000000000 / B ↔ ¬ (-1000000000000 ≤ a * b ∧ a * b ≤ 1000000000000) := by
  have hp : 0 < B := by omega
  have e : (((a * b).natAbs : Nat) : Int) = A * B := by rw [Int.natAbs_mul, hA, hB]; push_cast; rfl
  have h1 : A ≤ 1000000000000 / B ↔ A * B ≤ 1000000000000 := Int.le_ediv_iff_mul_le hp
  constructor
  · intro h hc
    have : A * B ≤ 1000000000000 := by rw [← e]; omega
    have := h1.2 this
    omega
  · intro h
    by_cases hc : A ≤ 1000000000000 / B
    · have := h1.1 hc
      rw [← e] at this
      exact absurd (by omega) h
    · omega
theorem good_num {x : S28} (h : termOkM x = true) (h1 : x.f0 = 1) : (-1000000000000 ≤ x.f1 ∧ x.f1 ≤ 1000000000000) ∧ noText x.f2 = true ∧ x.f3 = [] := by
  obtain ⟨a, b, s, l⟩ := x
  dsimp only at h1
  unfold termOkM at h
  rw [Bool.and_eq_true, goodM, Bool.and_eq_true] at h
  have hs := h.1.1
  unfold shapeM at hs
  rw [if_pos h1, Bool.and_eq_true, Bool.and_eq_true, Bool.and_eq_true, decide_eq_true_iff, decide_eq_true_iff, beq_iff_eq] at hs
  refine ⟨hs.1, hs.2.1, ?_⟩
  have := hs.2.2
  dsimp only
  exact List.eq_nil_of_length_eq_zero (by omega)
theorem good_of {x : S28} (h : termOkM x = true) : goodM x 8 = true := by
  unfold termOkM at h
  rw [Bool.and_eq_true] at h
  exact h.1
mutual
theorem sameM_eq : ∀ x y, sameM x y = true → x = y
  | ⟨a, b, s, l⟩, ⟨a2, b2, s2, l2⟩, h => by
    rw [sameM] at h
    simp only [Bool.and_eq_true, decide_eq_true_eq, Go.Lib.toList_data] at h
    obtain ⟨rfl, rfl, h3, h4⟩ := h
    have e : s = s2 := ByteArray.ext (Array.toList_inj.1 h3)
    rw [e, sameML_eq l l2 h4]
theorem sameML_eq : ∀ l m, sameML l m = true → l = m
  | [], [], _ => rfl
  | [], _ :: _, h => by rw [sameML] at h; cases h
  | _ :: _, [], h => by rw [sameML] at h; cases h
  | x :: r, y :: m, h => by
    rw [sameML, Bool.and_eq_true] at h
    rw [sameM_eq x y h.1, sameML_eq r m h.2]
end
mutual
theorem sameM_refl : ∀ x, sameM x x = true
  | ⟨a, b, s, l⟩ => by rw [sameM, sameML_refl l]; simp
theorem sameML_refl : ∀ l, sameML l l = true
  | [] => by rw [sameML]; rfl
  | x :: r => by rw [sameML, sameM_refl x, sameML_refl r]; rfl
end
theorem spec_Same_loop (a b : Int) (s : ByteArray) (l : List S28) (a2 b2 : Int) (s2 : ByteArray) (m : List S28) (hl : (budIL l : Int) ≤ 4194304) (hm : l.length = m.length)
    (h : ∀ y ∈ l, ∀ z, Ev (fun k => spec_SameTerm.f k y.f0 y.f1 y.f2 y.f3 z.f0 z.f1 z.f2 z.f3) (sameM y z)) (d : Nat) : ∀ (i : Nat), i + d = l.length → Ev (fun k => spec_SameTerm.l0 k i a b s l a2 b2 s2 m) (sameML (l.drop i) (m.drop i)) := by
  have hlen := budIL_len l
  induction d with
  | zero =>
    intro i hi
    refine Ev.step (f := fun _ => some true) (fun k => ?_) (ev_cast ?_ (Ev.now _))
    · simp only [spec_SameTerm.l0]; rw [if_neg (by omega)]
    · rw [List.drop_eq_nil_of_le (by omega), List.drop_eq_nil_of_le (by omega)]; rfl
  | succ d ih =>
    intro i hi
    have hlt : i < l.length := by omega
    have e := h _ (rdI_mem l i hlt) (rd_T28 m i)
    have hn := ih (i + 1) (by omega)
    rw [dropI l i hlt, dropI m i (by omega), sameML]
    generalize hy : rd_T28 l i = y at *
    generalize hz : rd_T28 m i = z at *
    refine Ev.step (f := fun k => (spec_SameTerm.f k y.f0 y.f1 y.f2 y.f3 z.f0 z.f1 z.f2 z.f3).bind fun t => (if t = true then (spec_SameTerm.l0 k (wrap64 ((i : Int) + 1)) a b s l a2 b2 s2 m) else (some false))) (fun k => ?_) (Ev.bind e ?_)
    · simp only [spec_SameTerm.l0]; rw [if_pos (by omega), if_pos (by omega), if_pos (by omega), hy, hz]
    · rw [w64 _ (by omega) (by omega)]
      cases hs : sameM y z with
      | true => exact ev_pos rfl hn
      | false => exact ev_neg (by decide) (Ev.now _)
theorem spec_Same_all : ∀ x, (budI x : Int) ≤ 4194304 → ∀ z, Ev (fun k => spec_SameTerm.f k x.f0 x.f1 x.f2 x.f3 z.f0 z.f1 z.f2 z.f3) (sameM x z) := by
  refine indI ?_
  intro a b s l ih hb z
  rw [budI] at hb
  obtain ⟨a2, b2, s2, m⟩ := z
  have no : Ev (fun k => spec_SameTerm.j0 k true a b s l a2 b2 s2 m) false := Ev.step (f := fun _ => some false) (fun k => by simp [spec_SameTerm.j0]) (Ev.now _)
  rw [sameM]
  simp only []
  by_cases h1 : a = a2
  · by_cases h2 : b = b2
    · by_cases h3 : s.toList = s2.toList
      · by_cases h4 : l.length = m.length
        · have e := spec_Same_loop a b s l a2 b2 s2 m (by omega) h4 (fun y hy z => ih y hy (by have := budI_mem l y hy; omega) z) l.length 0 (by omega)
          refine Ev.step (f := fun k => spec_SameTerm.j0 k false a b s l a2 b2 s2 m) (fun k => ?_) (Ev.step (fun k => ?_) (ev_cast ?_ e))
          · simp only [spec_SameTerm.f]; rw [if_pos h1, if_pos h2, if_pos h3, h4]; simp
          · simp only [spec_SameTerm.j0]; rw [if_neg (by decide)]; rfl
          · simp [h1, h2, h3]
        · refine Ev.step (fun k => ?_) (ev_cast ?_ no)
          · simp only [spec_SameTerm.f]; rw [if_pos h1, if_pos h2, if_pos h3]
            congr 1
            simp; omega
          · cases hs : sameML l m with
            | true => exact absurd (sameML_len l m hs) h4
            | false => simp
      · refine Ev.step (fun k => ?_) (ev_cast ?_ no)
        · simp only [spec_SameTerm.f]; rw [if_pos h1, if_pos h2, if_neg h3]
        · simp [h3]
    · refine Ev.step (fun k => ?_) (ev_cast ?_ no)
      · simp only [spec_SameTerm.f]; rw [if_pos h1, if_neg h2]
      · simp [h2]
  · refine Ev.step (fun k => ?_) (ev_cast ?_ no)
    · simp only [spec_SameTerm.f]; rw [if_neg h1]
    · simp [h1]
theorem same_cmp {x y : S28} {n m : Nat} (hx : goodM x n = true) (hy : goodM y m = true) : sameM x y = decide (cmpM x y = 0) := by
  by_cases h : cmpM x y = 0
  · rw [decide_eq_true h, cmp_zero x n hx y m hy h, sameM_refl]
  · rw [decide_eq_false h]
    cases hs : sameM x y with
    | false => rfl
    | true => exact absurd (by rw [sameM_eq x y hs]; exact cmp_refl y) h
theorem sless_loop (a b : Int) (s : ByteArray) (l : List S28) (a2 b2 : Int) (s2 : ByteArray) (m : List S28) (hl : (budIL l : Int) ≤ 4194304) (n1 n2 : Nat) (hg1 : ∀ x ∈ l, goodM x n1 = true) (hg2 : ∀ y ∈ m, goodM y n2 = true)
    (h : ∀ x ∈ l, ∀ y ∈ m, Ev (fun k => spec_LessTerm.f k x.f0 x.f1 x.f2 x.f3 y.f0 y.f1 y.f2 y.f3) (decide (cmpM x y < 0))) (d : Nat) :
    ∀ (i : Nat), i + d = l.length → Ev (fun k => spec_LessTerm.l0 k i a b s l a2 b2 s2 m) (decide (cmpL (l.drop i) (m.drop i) < 0)) := by
  have hlen := budIL_len l
  have stop : ∀ i : Nat, Ev (fun k => spec_LessTerm.j3 k i false a b s l a2 b2 s2 m) (decide ((l.length : Int) < (m.length : Int))) := fun i => Ev.step (f := fun _ => some (decide ((l.length : Int) < (m.length : Int)))) (fun k => by simp only [spec_LessTerm.j3]; rw [if_neg (by decide)]) (Ev.now _)
  induction d with
  | zero =>
    intro i hi
    refine Ev.step (f := fun k => spec_LessTerm.j3 k i false a b s l a2 b2 s2 m) (fun k => ?_) (ev_cast ?_ (stop i))
    · simp only [spec_LessTerm.l0]; rw [if_neg (by omega)]
    · rw [List.drop_eq_nil_of_le (by omega), cmpL]
      by_cases hm : l.length < m.length
      · rw [List.drop_eq_getElem_cons (by omega), decide_eq_true (by omega)]; rfl
      · rw [List.drop_eq_nil_of_le (by omega), decide_eq_false (by omega)]; rfl
  | succ d ih =>
    intro i hi
    have hlt : i < l.length := by omega
    have hn := ih (i + 1) (by omega)
    by_cases hm : i < m.length
    · have hxm := rdI_mem l i hlt
      have hym := rdI_mem m i hm
      have e := h _ hxm _ hym
      have es := spec_Same_all (rd_T28 l i) (by have := budI_mem l _ hxm; omega) (rd_T28 m i)
      have hsc := same_cmp (hg1 _ hxm) (hg2 _ hym)
      rw [dropI l i hlt, dropI m i hm, cmpL]
      generalize hy : rd_T28 l i = y at *
      generalize hz : rd_T28 m i = z at *
      refine Ev.step (f := fun k => spec_LessTerm.j3 k i true a b s l a2 b2 s2 m) (fun k => ?_) (Ev.step (f := fun k => (spec_SameTerm.f k y.f0 y.f1 y.f2 y.f3 z.f0 z.f1 z.f2 z.f3).bind fun t298 => (if t298 = true then (spec_LessTerm.l0 k (wrap64 ((i : Int) + 1)) a b s l a2 b2 s2 m) else ((spec_LessTerm.f k y.f0 y.f1 y.f2 y.f3 z.f0 z.f1 z.f2 z.f3).bind fun t301 => (some t301)))) (fun k => ?_) (Ev.bind es ?_))
      · simp only [spec_LessTerm.l0]
        rw [if_pos (by omega), decide_eq_true (by omega)]
      · simp only [spec_LessTerm.j3]
        rw [if_pos trivial, if_pos (by omega), if_pos (by omega), if_pos (by omega), hy, hz]
      · rw [w64 _ (by omega) (by omega), hsc]
        by_cases h0 : cmpM y z = 0
        · rw [if_pos h0]; exact ev_pos (decide_eq_true h0) hn
        · rw [if_neg h0]; exact ev_neg (by rw [decide_eq_false h0]; decide) (Ev.bind e (Ev.now _))
    · refine Ev.step (f := fun k => spec_LessTerm.j3 k i false a b s l a2 b2 s2 m) (fun k => ?_) (ev_cast ?_ (stop i))
      · simp only [spec_LessTerm.l0]; rw [if_pos (by omega), decide_eq_false (by omega)]
      · rw [dropI l i hlt, List.drop_eq_nil_of_le (show m.length ≤ i by omega), cmpL, decide_eq_false (by omega)]; rfl
theorem spec_Less_all : ∀ x n, goodM x n = true → (budI x : Int) ≤ 4194304 → ∀ y m, goodM y m = true → Ev (fun k => spec_LessTerm.f k x.f0 x.f1 x.f2 x.f3 y.f0 y.f1 y.f2 y.f3) (decide (cmpM x y < 0)) := by
  refine indI (fun a b s l ih n hg hb y m hy => ?_)
  obtain ⟨a2, b2, s2, l2⟩ := y
  obtain ⟨n1, rfl, hs, hl⟩ := good_mk hg
  obtain ⟨m1, rfl, hs2, hl2⟩ := good_mk hy
  rw [budI_mk] at hb
  have hg1 := goodL_mem l n1 hl
  have hg2 := goodL_mem l2 m1 hl2
  have hL := sless_loop a b s l a2 b2 s2 l2 (by omega) n1 m1 hg1 hg2 (fun x hx y hy => ih x hx n1 (hg1 x hx) (by have := budI_mem l x hx; omega) y m1 (hg2 y hy)) l.length 0 (by omega)
  have hJ : Ev (fun k => spec_LessTerm.j1 k a b s l a2 b2 s2 l2) (decide (cmpL l l2 < 0)) := Ev.step (fun k => by simp only [spec_LessTerm.j1]; rfl) hL
  rw [cmpM]
  show Ev (fun k => spec_LessTerm.f k a b s l a2 b2 s2 l2) _
  simp only
  by_cases h : a = a2
  · rw [if_pos h]
    have key : ∀ q : Bool, (q = true ↔ (a = 1 ∨ a = 3)) → Ev (fun k => spec_LessTerm.j0 k q a b s l a2 b2 s2 l2) (decide ((if a = 1 ∨ a = 3 then cI b b2 else if a = 2 then cB s.toList s2.toList else if a = 4 then (if l.length = l2.length then cmpL l l2 else cI l.length l2.length) else if a = 5 then cmpL l l2 else 0) < 0)) := by
      intro q hq
      by_cases c1 : a = 1 ∨ a = 3
      · rw [if_pos c1]
        refine Ev.step (f := fun _ => some (decide (b < b2))) (fun k => ?_) (ev_cast ?_ (Ev.now _))
        · simp only [spec_LessTerm.j0]; rw [if_pos (hq.2 c1)]
        · rw [decide_eq_decide, cI_neg]
      have hq2 : ¬ q = true := fun e => c1 (hq.1 e)
      rw [if_neg c1]
      by_cases c2 : a = 2
      · rw [if_pos c2]
        refine Ev.step (f := fun _ => some (Op.bytesLess s.toList s2.toList)) (fun k => ?_) (ev_cast ?_ (Ev.now _))
        · simp only [spec_LessTerm.j0]; rw [if_neg hq2, if_pos c2]
        · cases hbl : Op.bytesLess s.toList s2.toList with
          | true => exact (decide_eq_true ((cB_neg _ _).2 hbl)).symm
          | false => exact (decide_eq_false (fun hc => by rw [(cB_neg _ _).1 hc] at hbl; cases hbl)).symm
      rw [if_neg c2]
      by_cases c4 : a = 4
      · rw [if_pos c4]
        refine Ev.step (f := fun k => (if (l.length : Int) = (l2.length : Int) then (spec_LessTerm.j1 k a b s l a2 b2 s2 l2) else (some (decide ((l.length : Int) < (l2.length : Int)))))) (fun k => ?_) ?_
        · simp only [spec_LessTerm.j0]; rw [if_neg hq2, if_neg c2, if_pos c4]
        · by_cases hn : l.length = l2.length
          · rw [if_pos hn]; exact ev_pos (by omega) hJ
          · rw [if_neg hn]; exact ev_neg (by omega) (ev_cast (by rw [decide_eq_decide, cI_neg]) (Ev.now _))
      rw [if_neg c4]
      have c5 : a = 5 := by
        rcases shape_cases hs with h | h | h | h
        · exact absurd (.inl h.1) c1
        · exact absurd h.1 c2
        · exact absurd (.inr h.1) c1
        · rcases h.1 with h | h
          · exact absurd h c4
          · exact h
      rw [if_pos c5]
      refine Ev.step (fun k => ?_) hJ
      simp only [spec_LessTerm.j0]; rw [if_neg hq2, if_neg c2, if_neg c4]
    by_cases c1 : a = 1
    · refine Ev.step (f := fun k => spec_LessTerm.j0 k true a b s l a2 b2 s2 l2) (fun k => ?_) (key _ (by simp; exact .inl c1))
      simp only [spec_LessTerm.f]; rw [if_pos h, if_pos c1]
    · refine Ev.step (f := fun k => spec_LessTerm.j0 k (a == 3) a b s l a2 b2 s2 l2) (fun k => ?_) (key _ (by rw [beq_iff_eq]; omega))
      simp only [spec_LessTerm.f]; rw [if_pos h, if_neg c1]
  · rw [if_neg h]
    refine Ev.step (f := fun _ => some (decide (a < a2))) (fun k => ?_) (ev_cast ?_ (Ev.now _))
    · simp only [spec_LessTerm.f]; rw [if_neg h]
    · rw [decide_eq_decide, cI_neg]
theorem spec_l1In_eq (a b c : Int) : spec_l1In.f a b c = some (decide (b ≤ a) && decide (a ≤ c)) := by
  unfold spec_l1In.f
  by_cases h : b ≤ a <;> simp [h]
theorem spec_AtomOk_l (s : ByteArray) (hs : s.size ≤ 140737488351232) (d : Nat) : ∀ i : Nat, i + d = s.size → Ev (fun k => spec_AtomOk.l0 k s i) (atomFrom s i && (decide (1 ≤ (s.size : Int)) && decide ((s.size : Int) ≤ 20))) := by
  induction d with
  | zero =>
    intro i hi
    refine Ev.step (f := fun _ => some (decide (1 ≤ (s.size : Int)) && decide ((s.size : Int) ≤ 20))) (fun k => ?_) (ev_cast ?_ (Ev.now _))
    · simp only [spec_AtomOk.l0]
      rw [if_neg (by omega), spec_l1In_eq]; rfl
    · rw [atomFrom_end s i (by omega)]; rfl
  | succ d ih =>
    intro i hi
    have hlt : i < s.size := by omega
    have hn := ih (i + 1) (by omega)
    rw [atomFrom_step s i hlt]
    by_cases h1 : lowB (bt s i) = true
    · refine Ev.step (fun k => ?_) (ev_cast ?_ hn)
      · simp only [spec_AtomOk.l0]
        rw [if_pos (by omega), if_pos (by omega), wbt, spec_l1In_eq]
        simp only [Option.bind_some]
        unfold lowB at h1
        rw [if_pos h1, w64 _ (by omega) (by omega)]
        rfl
      · rw [h1]; rfl
    · have h1' : lowB (bt s i) = false := by simpa using h1
      by_cases h0 : i = 0
      · refine Ev.step (f := fun _ => some false) (fun k => ?_) (ev_cast ?_ (Ev.now _))
        · simp only [spec_AtomOk.l0]
          rw [if_pos (by omega), if_pos (by omega), wbt, spec_l1In_eq]
          simp only [Option.bind_some]
          unfold lowB at h1
          rw [if_neg h1, if_pos (by omega)]
        · rw [h1']; simp [h0]
      · by_cases h2 : digB (bt s i) = true
        · refine Ev.step (fun k => ?_) (ev_cast ?_ hn)
          · simp only [spec_AtomOk.l0]
            rw [if_pos (by omega), if_pos (by omega), wbt, spec_l1In_eq]
            simp only [Option.bind_some]
            unfold lowB at h1; unfold digB at h2
            rw [if_neg h1, if_neg (by omega), spec_l1In_eq]
            simp only [Option.bind_some]
            rw [if_pos h2, w64 _ (by omega) (by omega)]
            rfl
          · rw [h2]; simp [h0]
        · have h2' : digB (bt s i) = false := by simpa using h2
          by_cases h3 : bt s i = 95
          · refine Ev.step (fun k => ?_) (ev_cast ?_ hn)
            · simp only [spec_AtomOk.l0]
              rw [if_pos (by omega), if_pos (by omega), wbt, spec_l1In_eq]
              simp only [Option.bind_some]
              unfold lowB at h1; unfold digB at h2
              rw [if_neg h1, if_neg (by omega), spec_l1In_eq]
              simp only [Option.bind_some]
              rw [if_neg h2, if_pos h3, w64 _ (by omega) (by omega)]
              rfl
            · simp [h0, h3]
          · refine Ev.step (f := fun _ => some false) (fun k => ?_) (ev_cast ?_ (Ev.now _))
            · simp only [spec_AtomOk.l0]
              rw [if_pos (by omega), if_pos (by omega), wbt, spec_l1In_eq]
              simp only [Option.bind_some]
              unfold lowB at h1; unfold digB at h2
              rw [if_neg h1, if_neg (by omega), spec_l1In_eq]
              simp only [Option.bind_some]
              rw [if_neg h2, if_neg h3]
            · rw [h1', h2']; simp [h3]
theorem spec_AtomOk_ev (s : ByteArray) (hs : s.size ≤ 140737488351232) : Ev (fun k => spec_AtomOk.f k s) (atomOkM s) := spec_AtomOk_l s hs s.size 0 (by omega)
theorem spec_l2Shape_ev (a b : Int) (s : ByteArray) (l : List S28) (hs : s.size ≤ 140737488351232) : Ev (fun k => spec_l2Shape.f k a b s l) (shapeM a b s l) := by
  unfold spec_l2Shape.f shapeM noText
  by_cases h1 : a = 1
  · rw [if_pos h1]
    refine ev_pos h1 (ev_of ?_)
    rw [spec_l1In_eq]
    simp only [Option.bind_some]
    by_cases p : (decide (-1000000000000 ≤ b) && decide (b ≤ 1000000000000)) = true
    · by_cases q : s.toList = ([] : List UInt8)
      · rw [if_pos p, if_pos q, p, decide_eq_true q]; rfl
      · rw [if_pos p, if_neg q, p, decide_eq_false q]; rfl
    · rw [if_neg p, Bool.eq_false_iff.mpr p]; rfl
  rw [if_neg h1]
  refine ev_neg h1 ?_
  by_cases h2 : a = 2
  · rw [if_pos h2]
    refine ev_pos h2 (Ev.bind (spec_AtomOk_ev s hs) ?_)
    cases hA : atomOkM s with
    | true =>
      by_cases q : b = 0
      · exact ev_pos rfl (ev_pos q (ev_cast (by rw [decide_eq_true q]; rfl) (Ev.now _)))
      · exact ev_pos rfl (ev_neg q (ev_cast (by rw [decide_eq_false q]; rfl) (Ev.now _)))
    | false => exact ev_neg (by decide) (Ev.now _)
  rw [if_neg h2]
  refine ev_neg h2 (ev_of ?_)
  by_cases h3 : a = 3
  · rw [if_pos h3, if_pos h3, spec_l1In_eq]
    simp only [Option.bind_some]
    by_cases p : (decide (0 ≤ b) && decide (b ≤ 1000000)) = true
    · by_cases q : s.toList = ([] : List UInt8)
      · rw [if_pos p, if_pos q, p, decide_eq_true q]; rfl
      · rw [if_pos p, if_neg q, p, decide_eq_false q]; rfl
    · rw [if_neg p, Bool.eq_false_iff.mpr p]; rfl
  rw [if_neg h3, if_neg h3]
  by_cases h4 : a = 4
  · rw [if_pos h4, if_pos h4]
    by_cases p : b = 0
    · by_cases q : s.toList = ([] : List UInt8)
      · rw [if_pos p, if_pos q, decide_eq_true p, decide_eq_true q]; rfl
      · rw [if_pos p, if_neg q, decide_eq_true p, decide_eq_false q]; rfl
    · rw [if_neg p, decide_eq_false p]; rfl
  rw [if_neg h4, if_neg h4]
  by_cases h5 : a = 5
  · rw [if_pos h5, if_pos h5]
    by_cases p : b = 0
    · by_cases q : s.toList = ([] : List UInt8)
      · rw [if_pos p, if_pos q, decide_eq_true p, decide_eq_true q]; rfl
      · rw [if_pos p, if_neg q, decide_eq_true p, decide_eq_false q]; rfl
    · rw [if_neg p, decide_eq_false p]; rfl
  · rw [if_neg h5, if_neg h5]
def lookRes (left : Int) (g : Bool) (c : Nat) : Int := if g = true ∧ (c : Int) ≤ left then left - c else -1
theorem spec_l2Look_loop (a b : Int) (s : ByteArray) (l : List S28) (hl : (budIL l : Int) ≤ 4194304) (n : Nat) (hn : n ≤ 8)
    (h : ∀ y ∈ l, ∀ left : Int, -1 ≤ left → left ≤ 300 → Ev (fun k => spec_l2Look.f k y.f0 y.f1 y.f2 y.f3 n left) (lookRes left (goodM y n) (countM y))) (d : Nat) :
    ∀ (i : Nat) (left : Int), i + d = l.length → -1 ≤ left → left ≤ 300 → Ev (fun k => spec_l2Look.l0 k (n + 1 : Int) left i a b s l) (if left = -1 then -1 else lookRes left (goodML (l.drop i) n) (countML (l.drop i))) := by
  have hlen := budIL_len l
  induction d with
  | zero =>
    intro i left hi h0 h1
    refine Ev.step (f := fun _ => some left) (fun k => ?_) (ev_cast ?_ (Ev.now _))
    · simp only [spec_l2Look.l0]; rw [if_neg (by omega)]
    · rw [List.drop_eq_nil_of_le (by omega), goodML, countML]
      by_cases hm : left = -1
      · rw [if_pos hm]; exact hm
      · rw [if_neg hm]; unfold lookRes; rw [if_pos ⟨rfl, by omega⟩]; omega
  | succ d ih =>
    intro i left hi h0 h1
    have hlt : i < l.length := by omega
    by_cases hm : left = -1
    · refine Ev.step (f := fun _ => some left) (fun k => ?_) (ev_cast ?_ (Ev.now _))
      · simp only [spec_l2Look.l0]; rw [if_pos (by omega), if_neg (by omega)]
      · rw [if_pos hm]; exact hm
    rw [if_neg hm]
    have e := h _ (rdI_mem l i hlt) left h0 h1
    rw [dropI l i hlt, goodML, countML]
    generalize hy : rd_T28 l i = y at *
    refine Ev.step (f := fun k => (spec_l2Look.f k y.f0 y.f1 y.f2 y.f3 n left).bind fun t => (spec_l2Look.l0 k (n + 1 : Int) t (wrap64 ((i : Int) + 1)) a b s l)) (fun k => ?_) (Ev.bind e ?_)
    · simp only [spec_l2Look.l0]; rw [if_pos (by omega), if_pos (by omega), if_pos (by omega), hy, w64 ((n : Int) + 1 - 1) (by omega) (by omega), show (n : Int) + 1 - 1 = n from by omega]
    · rw [w64 _ (by omega) (by omega)]
      have hr : -1 ≤ lookRes left (goodM y n) (countM y) ∧ lookRes left (goodM y n) (countM y) ≤ 300 := by
        unfold lookRes; split <;> omega
      refine ev_cast ?_ (ih (i + 1) _ (by omega) hr.1 hr.2)
      have hc := count_pos y
      cases hg : goodM y n with
      | false =>
        have hv : lookRes left false (countM y) = -1 := by unfold lookRes; simp
        rw [hv, if_pos rfl]
        unfold lookRes; simp
      | true =>
        by_cases hq : (countM y : Int) ≤ left
        · have hv : lookRes left true (countM y) = left - countM y := by unfold lookRes; rw [if_pos ⟨rfl, hq⟩]
          rw [hv, if_neg (by omega), Bool.true_and]
          unfold lookRes
          cases hg2 : goodML (l.drop (i + 1)) n with
          | false => simp
          | true =>
            by_cases hq2 : (countML (l.drop (i + 1)) : Int) ≤ left - countM y
            · rw [if_pos ⟨rfl, hq2⟩, if_pos ⟨rfl, by omega⟩]; omega
            · rw [if_neg (by omega), if_neg (by omega)]
        · have hv : lookRes left true (countM y) = -1 := by unfold lookRes; rw [if_neg (by omega)]
          rw [hv, if_pos rfl]
          unfold lookRes
          rw [if_neg (by omega)]
theorem spec_l2Look_all : ∀ x, (budI x : Int) ≤ 4194304 → ∀ (n : Nat), n ≤ 8 → ∀ left : Int, -1 ≤ left → left ≤ 300 → Ev (fun k => spec_l2Look.f k x.f0 x.f1 x.f2 x.f3 n left) (lookRes left (goodM x n) (countM x)) := by
  refine indI ?_
  intro a b s l ih hb n hn left h0 h1
  rw [budI] at hb
  simp only []
  have no : Ev (fun k => spec_l2Look.j0 k (n : Int) left true a b s l) (-1) := Ev.step (f := fun _ => some (-1)) (fun k => by simp [spec_l2Look.j0]) (Ev.now _)
  cases n with
  | zero =>
    refine Ev.step (fun k => ?_) (ev_cast ?_ no)
    · simp only [spec_l2Look.f]; rw [if_pos (by omega)]
    · rw [goodM]; unfold lookRes; simp
  | succ n =>
    rw [goodM, countM]
    by_cases hl1 : left < 1
    · refine Ev.step (fun k => ?_) (ev_cast ?_ no)
      · simp only [spec_l2Look.f]; rw [if_neg (by omega), if_pos hl1]
      · unfold lookRes; rw [if_neg (by omega)]
    refine Ev.step (f := fun k => (spec_l2Shape.f k a b s l).bind fun t => (spec_l2Look.j0 k ((n + 1 : Nat) : Int) left (!t) a b s l)) (fun k => ?_) (Ev.bind (spec_l2Shape_ev a b s l (by omega)) ?_)
    · simp only [spec_l2Look.f]; rw [if_neg (by omega), if_neg hl1]
    cases hsh : shapeM a b s l with
    | false => exact ev_cast (by unfold lookRes; simp) no
    | true =>
      have e := spec_l2Look_loop a b s l (by omega) n (by omega) (fun y hy left h0 h1 => ih y hy (by have := budI_mem l y hy; omega) n (by omega) left h0 h1) l.length 0 (left - 1) (by omega) (by omega) (by omega)
      refine Ev.step (fun k => ?_) (ev_cast ?_ e)
      · simp only [spec_l2Look.j0]; rw [if_neg (by decide), w64 _ (by omega) (by omega)]; rfl
      · rw [if_neg (by omega), List.drop_zero, Bool.true_and]
        unfold lookRes
        cases goodML l n with
        | false => simp
        | true =>
          by_cases hq : (countML l : Int) ≤ left - 1
          · rw [if_pos ⟨rfl, hq⟩, if_pos ⟨rfl, by omega⟩]; omega
          · rw [if_neg (by omega), if_neg (by omega)]
theorem spec_TermOk_ev (x : S28) (hb : (budI x : Int) ≤ 4194304) : Ev (fun k => spec_TermOk.f k x.f0 x.f1 x.f2 x.f3) (termOkM x) := by
  unfold spec_TermOk.f
  refine Ev.bind (spec_l2Look_all x hb 8 (by omega) 300 (by omega) (by omega)) (ev_cast ?_ (Ev.now _))
  unfold termOkM lookRes
  cases goodM x 8 with
  | false => simp
  | true =>
    by_cases hq : countM x ≤ 300
    · rw [if_pos ⟨rfl, by omega⟩, decide_eq_true hq]; simp; omega
    · rw [if_neg (by omega), decide_eq_false hq]; rfl
theorem spec_l4Op_eq (s : ByteArray) : spec_l4Op.f s = some (opL s.toList) := by
  unfold spec_l4Op.f opL
  generalize s.toList = l
  by_cases h1 : l = [43]
  · rw [if_pos h1]; simp [h1]
  rw [if_neg h1]
  by_cases h2 : l = [45]
  · rw [if_pos h2]; simp [h2]
  rw [if_neg h2]
  by_cases h3 : l = [42]
  · rw [if_pos h3]; simp [h3]
  rw [if_neg h3]
  by_cases h4 : l = [61, 61]
  · rw [if_pos h4]; simp [h4]
  rw [if_neg h4]
  by_cases h5 : l = [60] <;> simp [h1, h2, h3, h4, h5]
theorem sBool_eq (b : Bool) : spec_l8Bool.f b = some ((boolS b).1, (boolS b).2.1, (boolS b).2.2.1, (boolS b).2.2.2.1) := by
  unfold spec_l8Bool.f boolS boolT
  cases b <;> rfl
theorem boolS_eta (b : Bool) : ((boolS b).1, (boolS b).2.1, (boolS b).2.2.1, (boolS b).2.2.2.1, (0 : Int)) = boolT b := by unfold boolS boolT; cases b <;> rfl
theorem sAbs_eq (a : Int) (ha : -1000000000000 ≤ a ∧ a ≤ 1000000000000) : spec_l8Abs.f a = some (a.natAbs : Int) := by
  unfold spec_l8Abs.f
  by_cases h : a < 0
  · rw [if_pos h, w64 (-a) (by omega) (by omega)]; congr 1; omega
  · rw [if_neg h]; congr 1; omega
theorem sArith_ev (op : ByteArray) (x y : S28) (ox : termOkM x = true) (oy : termOkM y = true) (h3 : x.f0 = 1) (h4 : y.f0 = 1) : Ev (fun k => spec_l8Operate.j0 k op false x.f0 x.f1 x.f2 x.f3 y.f0 y.f1 y.f2 y.f3) (arithM op.toList x.f1 y.f1) := by
  have ha := (good_num ox h3).1
  have hb := (good_num oy h4).1
  generalize x.f1 = a at *
  generalize y.f1 = b at *
  refine Ev.step (fun k => by simp only [spec_l8Operate.j0]; rfl) ?_
  refine ev_neg (by decide) ?_
  unfold arithM
  rw [w64 (a + b) (by omega) (by omega), w64 (a - b) (by omega) (by omega)]
  by_cases h1 : op.toList = [43]
  · exact evT h1 (Ev.bind (ev_of (spec_l1In_eq _ _ _)) (rngT_ev _))
  refine evF h1 ?_
  by_cases h2 : op.toList = [45]
  · exact evT h2 (Ev.bind (ev_of (spec_l1In_eq _ _ _)) (rngT_ev _))
  refine evF h2 ?_
  have fin : (-1000000000000 ≤ a * b ∧ a * b ≤ 1000000000000) → Ev (fun k => spec_l8Operate.j1 k false x.f0 a x.f2 x.f3 y.f0 b y.f2 y.f3) (rngT (a * b)) := fun hc => by
    refine Ev.step (fun k => by simp only [spec_l8Operate.j1]; rfl) ?_
    rw [w64 (a * b) (by omega) (by omega)]
    exact ev_neg (by decide) (Ev.bind (ev_of (spec_l1In_eq _ _ _)) (rngT_ev _))
  by_cases z1 : a = 0
  · exact ev_pos z1 (fin (by rw [z1]; simp))
  refine ev_neg z1 ?_
  by_cases z2 : b = 0
  · exact ev_pos z2 (fin (by rw [z2]; simp))
  refine ev_neg z2 (Ev.bind (ev_of (sAbs_eq a ha)) (Ev.bind (ev_of (sAbs_eq b hb)) (ev_neg (by omega) ?_)))
  have hk := abs_mul_lt a b ha hb z2 _ _ rfl rfl
  have hq : wrap64 ((1000000000000 : Int) / (b.natAbs : Int)) = (1000000000000 : Int) / (b.natAbs : Int) := by
    have q0 : 0 ≤ (1000000000000 : Int) / (b.natAbs : Int) := Int.ediv_nonneg (by omega) (by omega)
    have q1 : (1000000000000 : Int) / (b.natAbs : Int) ≤ 1000000000000 := Int.ediv_le_self _ (by omega)
    exact w64 _ (by omega) (by omega)
  rw [hq]
  by_cases hc : -1000000000000 ≤ a * b ∧ a * b ≤ 1000000000000
  · rw [decide_eq_false (fun h => (hk.1 h) hc)]
    exact fin hc
  · rw [decide_eq_true (hk.2 hc)]
    have er : rngT (a * b) = zeroT 3 := by unfold rngT; rw [if_neg hc]
    rw [er]
    exact Ev.step (f := fun _ => some (zeroT 3)) (fun k => by simp only [spec_l8Operate.j1]; rw [if_pos trivial]; rfl) (Ev.now _)
theorem sOper_ev (op : ByteArray) (x y : S28) (hx : (budI x : Int) ≤ 4194304) (ox : termOkM x = true) (oy : termOkM y = true) : Ev (fun k => spec_l8Operate.f k op x.f0 x.f1 x.f2 x.f3 y.f0 y.f1 y.f2 y.f3) (operG op.toList x y) := by
  have bad : ∀ q : Bool, q = true → Ev (fun k => spec_l8Operate.j0 k op q x.f0 x.f1 x.f2 x.f3 y.f0 y.f1 y.f2 y.f3) (zeroT 3) := fun q hq => by
    subst hq
    exact Ev.step (f := fun _ => some (zeroT 3)) (fun k => by simp only [spec_l8Operate.j0]; rw [if_pos trivial]; rfl) (Ev.now _)
  unfold spec_l8Operate.f operG
  by_cases h1 : op.toList = [61, 61]
  · refine evT h1 (Ev.bind (spec_Same_all x hx y) (Ev.bind (ev_of (sBool_eq _)) (ev_cast (boolS_eta _) (Ev.now _))))
  refine evF h1 ?_
  by_cases h2 : op.toList = [60]
  · refine evT h2 (Ev.bind (spec_Less_all x 8 (good_of ox) hx y 8 (good_of oy)) (Ev.bind (ev_of (sBool_eq _)) (ev_cast (boolS_eta _) (Ev.now _))))
  refine evF h2 ?_
  by_cases h3 : x.f0 = 1
  · refine ev_pos h3 ?_
    by_cases h4 : y.f0 = 1
    · have e : (y.f0 != 1) = false := by simp [h4]
      rw [e]
      exact ev_cast (if_pos ⟨h3, h4⟩).symm (sArith_ev op x y ox oy h3 h4)
    · exact ev_cast (if_neg (fun h => h4 h.2)).symm (bad _ (by simp [h4]))
  · exact ev_cast (if_neg (fun h => h3 h.1)).symm (ev_neg h3 (bad _ rfl))
theorem spec_Operate_ev (op : ByteArray) (x y : S28) (hx : (budI x : Int) ≤ 4194304) (hy : (budI y : Int) ≤ 4194304) : Ev (fun k => spec_Operate.f k op x.f0 x.f1 x.f2 x.f3 y.f0 y.f1 y.f2 y.f3) (operM op.toList x y) := by
  unfold spec_Operate.f operM
  refine Ev.bind (ev_of (spec_l4Op_eq _)) ?_
  by_cases h1 : opL op.toList = true
  · refine evT h1 (Ev.bind (spec_TermOk_ev x hx) ?_)
    by_cases h2 : termOkM x = true
    · refine evT h2 (Ev.bind (spec_TermOk_ev y hy) ?_)
      by_cases h3 : termOkM y = true
      · exact evT h3 (Ev.bind (sOper_ev op x y hx h2 h3) (Ev.now _))
      · exact evF h3 (Ev.now _)
    · exact evF h2 (Ev.now _)
  · exact evF h1 (Ev.now _)
theorem cmpInt_eq (x y : Int) : cmp_Compare_int.f x y = some (cI x y) := by
  unfold cmp_Compare_int.f cmp_isNaN_int.f cI
  have h1 : (x != x) = false := by simp
  have h2 : (y != y) = false := by simp
  simp only [Option.bind_some, h1, h2]
  rw [if_neg (by decide), if_neg (by decide)]
  split
  · rfl
  · split <;> rfl
theorem cmpStr_eq (x y : ByteArray) : cmp_Compare_string.f x y = some (cB x.toList y.toList) := by
  unfold cmp_Compare_string.f cmp_isNaN_string.f cB
  have h1 : (x.toList != x.toList) = false := by simp
  have h2 : (y.toList != y.toList) = false := by simp
  simp only [Option.bind_some, h1, h2]
  rw [if_neg (by decide), if_neg (by decide)]
  split
  · rfl
  · split <;> rfl
theorem cmpF_loop (l m : List S28) (hl : (l.length : Int) ≤ 4194304) (h : ∀ x ∈ l, ∀ y ∈ m, Ev (fun k => impl_compareTerms.f k x.f0 x.f1 x.f2 x.f3 y.f0 y.f1 y.f2 y.f3) (cmpM x y)) (d : Nat) :
    ∀ (i : Nat), i + d = l.length → Ev (fun k => slices_CompareFunc_of_impl_compareTerms.l0 k l m l (l.length : Int) i) (cmpL (l.drop i) (m.drop i)) := by
  induction d with
  | zero =>
    intro i hi
    refine Ev.step (f := fun _ => if (l.length : Int) < (m.length : Int) then (some (-1)) else (some 0)) (fun k => ?_) ?_
    · simp only [slices_CompareFunc_of_impl_compareTerms.l0]; rw [if_neg (by omega)]
    · rw [List.drop_eq_nil_of_le (by omega), cmpL]
      by_cases hm : l.length < m.length
      · refine ev_pos (by omega) (ev_cast ?_ (Ev.now _))
        rw [List.drop_eq_getElem_cons (by omega)]; rfl
      · refine ev_neg (by omega) (ev_cast ?_ (Ev.now _))
        rw [List.drop_eq_nil_of_le (by omega)]; rfl
  | succ d ih =>
    intro i hi
    have hlt : i < l.length := by omega
    have hn := ih (i + 1) (by omega)
    by_cases hm : i < m.length
    · have e := h _ (rdI_mem l i hlt) _ (rdI_mem m i hm)
      rw [dropI l i hlt, dropI m i hm, cmpL]
      generalize hy : rd_T28 l i = y at *
      generalize hz : rd_T28 m i = z at *
      refine Ev.step (f := fun k => (impl_compareTerms.f k y.f0 y.f1 y.f2 y.f3 z.f0 z.f1 z.f2 z.f3).bind fun t => (if t = 0 then (slices_CompareFunc_of_impl_compareTerms.l0 k l m l (l.length : Int) (wrap64 ((i : Int) + 1))) else (some t))) (fun k => ?_) (Ev.bind e ?_)
      · simp only [slices_CompareFunc_of_impl_compareTerms.l0]
        rw [if_pos (by omega), if_pos (by omega), if_pos (by omega), if_neg (by omega), if_pos (by omega), hy, hz]
      · rw [w64 _ (by omega) (by omega)]
        by_cases h0 : cmpM y z = 0
        · rw [if_pos h0]; exact ev_pos h0 hn
        · rw [if_neg h0]; exact ev_neg h0 (Ev.now _)
    · refine Ev.step (f := fun _ => some 1) (fun k => ?_) (ev_cast ?_ (Ev.now _))
      · simp only [slices_CompareFunc_of_impl_compareTerms.l0]
        rw [if_pos (by omega), if_pos (by omega), if_pos (by omega), if_pos (by omega)]
      · rw [dropI l i hlt, List.drop_eq_nil_of_le (show m.length ≤ i by omega), cmpL]
theorem impl_cmp_all : ∀ x, (budI x : Int) ≤ 4194304 → ∀ y, Ev (fun k => impl_compareTerms.f k x.f0 x.f1 x.f2 x.f3 y.f0 y.f1 y.f2 y.f3) (cmpM x y) := by
  refine indI (fun a b s l ih hb y => ?_)
  obtain ⟨a2, b2, s2, m⟩ := y
  rw [budI_mk] at hb
  have hll := budIL_len l
  have hf : Ev (fun k => slices_CompareFunc_of_impl_compareTerms.f k l m) (cmpL l m) := by
    have e := cmpF_loop l m (by omega) (fun x hx y _ => ih x hx (by have := budI_mem l x hx; omega) y) l.length 0 (by omega)
    exact Ev.step (fun k => by simp only [slices_CompareFunc_of_impl_compareTerms.f]; rfl) e
  rw [cmpM]
  show Ev (fun k => impl_compareTerms.f k a b s l a2 b2 s2 m) _
  simp only
  by_cases h : a = a2
  · subst h
    rw [if_pos rfl]
    have key : ∀ q : Bool, (q = true ↔ (a = 1 ∨ a = 3)) → Ev (fun k => impl_compareTerms.j0 k a q a b s l a b2 s2 m) (if a = 1 ∨ a = 3 then cI b b2 else if a = 2 then cB s.toList s2.toList else if a = 4 then (if l.length = m.length then cmpL l m else cI l.length m.length) else if a = 5 then cmpL l m else 0) := by
      intro q hq
      by_cases c1 : a = 1 ∨ a = 3
      · rw [if_pos c1]
        refine Ev.step (f := fun k => (cmp_Compare_int.f b b2).bind fun t273 => (some t273)) (fun k => ?_) (Ev.bind (ev_of (cmpInt_eq _ _)) (Ev.now _))
        simp only [impl_compareTerms.j0]; rw [if_pos (hq.2 c1)]
      have hq2 : ¬ q = true := fun e => c1 (hq.1 e)
      rw [if_neg c1]
      by_cases c2 : a = 2
      · rw [if_pos c2]
        refine Ev.step (f := fun k => (cmp_Compare_string.f s s2).bind fun t274 => (some t274)) (fun k => ?_) (Ev.bind (ev_of (cmpStr_eq _ _)) (Ev.now _))
        simp only [impl_compareTerms.j0]; rw [if_neg hq2, if_pos c2]
      rw [if_neg c2]
      by_cases c4 : a = 4
      · rw [if_pos c4]
        refine Ev.step (f := fun k => (if (l.length : Int) = (m.length : Int) then ((slices_CompareFunc_of_impl_compareTerms.f k l m).bind fun t275 => (some t275)) else ((cmp_Compare_int.f (l.length : Int) (m.length : Int)).bind fun t276 => (some t276)))) (fun k => ?_) ?_
        · simp only [impl_compareTerms.j0]; rw [if_neg hq2, if_neg c2, if_pos c4]
        · by_cases hl : l.length = m.length
          · rw [if_pos hl]; exact ev_pos (by omega) (Ev.bind hf (Ev.now _))
          · rw [if_neg hl]; exact ev_neg (by omega) (Ev.bind (ev_of (cmpInt_eq _ _)) (Ev.now _))
      rw [if_neg c4]
      by_cases c5 : a = 5
      · rw [if_pos c5]
        refine Ev.step (f := fun k => ((slices_CompareFunc_of_impl_compareTerms.f k l m).bind fun t277 => (some t277))) (fun k => ?_) (Ev.bind hf (Ev.now _))
        simp only [impl_compareTerms.j0]; rw [if_neg hq2, if_neg c2, if_neg c4, if_pos c5]
      · rw [if_neg c5]
        refine Ev.step (f := fun _ => some 0) (fun k => ?_) (Ev.now _)
        simp only [impl_compareTerms.j0]; rw [if_neg hq2, if_neg c2, if_neg c4, if_neg c5]
    by_cases c1 : a = 1
    · refine Ev.step (f := fun k => impl_compareTerms.j0 k a (a == 1) a b s l a b2 s2 m) (fun k => ?_) (key _ (by rw [beq_iff_eq]; omega))
      simp only [impl_compareTerms.f]; rw [if_pos trivial, if_pos c1]
    · refine Ev.step (f := fun k => impl_compareTerms.j0 k a (a == 3) a b s l a b2 s2 m) (fun k => ?_) (key _ (by rw [beq_iff_eq]; omega))
      simp only [impl_compareTerms.f]; rw [if_pos trivial, if_neg c1]
  · rw [if_neg h]
    refine Ev.step (f := fun k => (cmp_Compare_int.f a a2).bind fun t272 => (some t272)) (fun k => ?_) (Ev.bind (ev_of (cmpInt_eq _ _)) (Ev.now _))
    simp only [impl_compareTerms.f]; rw [if_neg h]
theorem impl_LessTerm_ev (x y : S28) (hb : (budI x : Int) ≤ 4194304) : Ev (fun k => impl_LessTerm.f k x.f0 x.f1 x.f2 x.f3 y.f0 y.f1 y.f2 y.f3) (decide (cmpM x y < 0)) := by
  unfold impl_LessTerm.f
  exact Ev.bind (impl_cmp_all x hb y) (Ev.now _)
theorem impl_Same_loop (l m : List S28) (hl : (budIL l : Int) ≤ 4194304) (hm : l.length = m.length)
    (h : ∀ y ∈ l, ∀ z, Ev (fun k => impl_SameTerm.f k y.f0 y.f1 y.f2 y.f3 z.f0 z.f1 z.f2 z.f3) (sameM y z)) (d : Nat) : ∀ (i : Nat), i + d = l.length → Ev (fun k => slices_EqualFunc_of_impl_SameTerm.l0 k m l (l.length : Int) i) (sameML (l.drop i) (m.drop i)) := by
  have hlen := budIL_len l
  induction d with
  | zero =>
    intro i hi
    refine Ev.step (f := fun _ => some true) (fun k => ?_) (ev_cast ?_ (Ev.now _))
    · simp only [slices_EqualFunc_of_impl_SameTerm.l0]; rw [if_neg (by omega)]
    · rw [List.drop_eq_nil_of_le (by omega), List.drop_eq_nil_of_le (by omega)]; rfl
  | succ d ih =>
    intro i hi
    have hlt : i < l.length := by omega
    have e := h _ (rdI_mem l i hlt) (rd_T28 m i)
    have hn := ih (i + 1) (by omega)
    rw [dropI l i hlt, dropI m i (by omega), sameML]
    generalize hy : rd_T28 l i = y at *
    generalize hz : rd_T28 m i = z at *
    refine Ev.step (f := fun k => (impl_SameTerm.f k y.f0 y.f1 y.f2 y.f3 z.f0 z.f1 z.f2 z.f3).bind fun t => (if t = true then (slices_EqualFunc_of_impl_SameTerm.l0 k m l (l.length : Int) (wrap64 ((i : Int) + 1))) else (some false))) (fun k => ?_) (Ev.bind e ?_)
    · simp only [slices_EqualFunc_of_impl_SameTerm.l0]; rw [if_pos (by omega), if_pos (by omega), if_pos (by omega), if_pos (by omega), hy, hz]
    · rw [w64 _ (by omega) (by omega)]
      cases hs : sameM y z with
      | true => exact ev_pos rfl hn
      | false => exact ev_neg (by decide) (Ev.now _)
theorem impl_EqualFunc_of (l m : List S28) (hl : (budIL l : Int) ≤ 4194304)
    (h : ∀ y ∈ l, ∀ z, Ev (fun k => impl_SameTerm.f k y.f0 y.f1 y.f2 y.f3 z.f0 z.f1 z.f2 z.f3) (sameM y z)) : Ev (fun k => slices_EqualFunc_of_impl_SameTerm.f k l m) (sameML l m) := by
  by_cases h4 : l.length = m.length
  · refine Ev.step (fun k => ?_) (impl_Same_loop l m hl h4 h l.length 0 (by omega))
    simp only [slices_EqualFunc_of_impl_SameTerm.f]; rw [if_pos (by omega)]; rfl
  · refine Ev.step (f := fun _ => some false) (fun k => ?_) (ev_cast ?_ (Ev.now _))
    · simp only [slices_EqualFunc_of_impl_SameTerm.f]; rw [if_neg (by omega)]
    · cases hs : sameML l m with
      | true => exact absurd (sameML_len l m hs) h4
      | false => rfl
theorem impl_Same_all : ∀ x, (budI x : Int) ≤ 4194304 → ∀ z, Ev (fun k => impl_SameTerm.f k x.f0 x.f1 x.f2 x.f3 z.f0 z.f1 z.f2 z.f3) (sameM x z) := by
  refine indI ?_
  intro a b s l ih hb z
  rw [budI] at hb
  obtain ⟨a2, b2, s2, m⟩ := z
  have e := impl_EqualFunc_of l m (by omega) (fun y hy z => ih y hy (by have := budI_mem l y hy; omega) z)
  rw [sameM]
  simp only []
  by_cases h1 : a = a2
  · by_cases h2 : b = b2
    · by_cases h3 : s.toList = s2.toList
      · refine Ev.step (f := fun k => (slices_EqualFunc_of_impl_SameTerm.f k l m).bind fun t => some t) (fun k => ?_) (Ev.bind e (ev_cast ?_ (Ev.now _)))
        · simp only [impl_SameTerm.f]; rw [if_pos h1, if_pos h2, if_pos h3]
        · simp [h1, h2, h3]
      · refine Ev.step (f := fun _ => some false) (fun k => ?_) (ev_cast ?_ (Ev.now _))
        · simp only [impl_SameTerm.f]; rw [if_pos h1, if_pos h2, if_neg h3]
        · simp [h3]
    · refine Ev.step (f := fun _ => some false) (fun k => ?_) (ev_cast ?_ (Ev.now _))
      · simp only [impl_SameTerm.f]; rw [if_pos h1, if_neg h2]
      · simp [h2]
  · refine Ev.step (f := fun _ => some false) (fun k => ?_) (ev_cast ?_ (Ev.now _))
    · simp only [impl_SameTerm.f]; rw [if_neg h1]
    · simp [h1]
theorem impl_inRange_eq (a b c : Int) : impl_inRange.f a b c = some (decide (b ≤ a) && decide (a ≤ c)) := by
  unfold impl_inRange.f
  by_cases h : b ≤ a <;> simp [h]
theorem impl_isSmall_eq (c : Int) : impl_isSmall.f c = some (lowB c) := by
  unfold impl_isSmall.f lowB
  by_cases h : 97 ≤ c <;> simp [h]
theorem impl_isFigure_eq (c : Int) : impl_isFigure.f c = some (digB c) := by
  unfold impl_isFigure.f digB
  by_cases h : 48 ≤ c <;> simp [h]
theorem impl_AtomOk_l (s : ByteArray) (hs : s.size ≤ 140737488351232) (d : Nat) : ∀ i : Nat, i + d = s.size → Ev (fun k => impl_AtomOk.l0 k s i) (atomFrom s i && (decide (1 ≤ (s.size : Int)) && decide ((s.size : Int) ≤ 20))) := by
  induction d with
  | zero =>
    intro i hi
    refine Ev.step (f := fun _ => some (decide (1 ≤ (s.size : Int)) && decide ((s.size : Int) ≤ 20))) (fun k => ?_) (ev_cast ?_ (Ev.now _))
    · simp only [impl_AtomOk.l0]
      rw [if_neg (by omega), impl_inRange_eq]; rfl
    · rw [atomFrom_end s i (by omega)]; rfl
  | succ d ih =>
    intro i hi
    have hlt : i < s.size := by omega
    have hn := ih (i + 1) (by omega)
    rw [atomFrom_step s i hlt]
    by_cases h1 : lowB (bt s i) = true
    · refine Ev.step (fun k => ?_) (ev_cast ?_ hn)
      · simp only [impl_AtomOk.l0]
        rw [if_pos (by omega), if_pos (by omega), impl_isSmall_eq]
        simp only [Option.bind_some]
        rw [if_pos h1, w64 _ (by omega) (by omega)]
        rfl
      · rw [h1]; rfl
    · have h1' : lowB (bt s i) = false := by simpa using h1
      by_cases h0 : i = 0
      · refine Ev.step (f := fun _ => some false) (fun k => ?_) (ev_cast ?_ (Ev.now _))
        · simp only [impl_AtomOk.l0]
          rw [if_pos (by omega), if_pos (by omega), impl_isSmall_eq]
          simp only [Option.bind_some]
          rw [if_neg h1, if_pos (by omega)]
        · rw [h1']; simp [h0]
      · by_cases h2 : digB (bt s i) = true
        · refine Ev.step (fun k => ?_) (ev_cast ?_ hn)
          · simp only [impl_AtomOk.l0]
            rw [if_pos (by omega), if_pos (by omega), impl_isSmall_eq]
            simp only [Option.bind_some]
            rw [if_neg h1, if_neg (by omega), impl_isFigure_eq]
            simp only [Option.bind_some]
            rw [if_pos h2, w64 _ (by omega) (by omega)]
            rfl
          · rw [h2]; simp [h0]
        · have h2' : digB (bt s i) = false := by simpa using h2
          by_cases h3 : bt s i = 95
          · refine Ev.step (fun k => ?_) (ev_cast ?_ hn)
            · simp only [impl_AtomOk.l0]
              rw [if_pos (by omega), if_pos (by omega), impl_isSmall_eq]
              simp only [Option.bind_some]
              rw [if_neg h1, if_neg (by omega), impl_isFigure_eq]
              simp only [Option.bind_some]
              rw [if_neg h2, if_pos h3, w64 _ (by omega) (by omega)]
              rfl
            · simp [h0, h3]
          · refine Ev.step (f := fun _ => some false) (fun k => ?_) (ev_cast ?_ (Ev.now _))
            · simp only [impl_AtomOk.l0]
              rw [if_pos (by omega), if_pos (by omega), impl_isSmall_eq]
              simp only [Option.bind_some]
              rw [if_neg h1, if_neg (by omega), impl_isFigure_eq]
              simp only [Option.bind_some]
              rw [if_neg h2, if_neg h3]
            · rw [h1', h2']; simp [h3]
theorem impl_AtomOk_ev (s : ByteArray) (hs : s.size ≤ 140737488351232) : Ev (fun k => impl_AtomOk.f k s) (atomOkM s) := impl_AtomOk_l s hs s.size 0 (by omega)
theorem impl_plainOk_ev (a b : Int) (s : ByteArray) (l : List S28) (hs : s.size ≤ 140737488351232) : Ev (fun k => impl_Term_plainOk.f k a b s l) (shapeM a b s l) := by
  unfold impl_Term_plainOk.f shapeM noText
  by_cases h1 : a = 1
  · rw [if_pos h1]
    refine ev_pos h1 (ev_of ?_)
    rw [impl_inRange_eq]
    simp only [Option.bind_some]
    by_cases p : (decide (-1000000000000 ≤ b) && decide (b ≤ 1000000000000)) = true
    · by_cases q : s.toList = ([] : List UInt8)
      · rw [if_pos p, if_pos q, p, decide_eq_true q]; rfl
      · rw [if_pos p, if_neg q, p, decide_eq_false q]; rfl
    · rw [if_neg p, Bool.eq_false_iff.mpr p]; rfl
  rw [if_neg h1]
  refine ev_neg h1 ?_
  by_cases h2 : a = 2
  · rw [if_pos h2]
    refine ev_pos h2 ?_
    by_cases q : b = 0
    · refine ev_pos q (Ev.bind (impl_AtomOk_ev s hs) ?_)
      cases hA : atomOkM s with
      | true => exact ev_pos rfl (ev_cast (by rw [decide_eq_true q]; rfl) (Ev.now _))
      | false => exact ev_neg (by decide) (Ev.now _)
    · exact ev_neg q (ev_cast (by rw [decide_eq_false q]; simp) (Ev.now _))
  rw [if_neg h2]
  refine ev_neg h2 (ev_of ?_)
  by_cases h3 : a = 3
  · rw [if_pos h3, if_pos h3, impl_inRange_eq]
    simp only [Option.bind_some]
    by_cases p : (decide (0 ≤ b) && decide (b ≤ 1000000)) = true
    · by_cases q : s.toList = ([] : List UInt8)
      · rw [if_pos p, if_pos q, p, decide_eq_true q]; rfl
      · rw [if_pos p, if_neg q, p, decide_eq_false q]; rfl
    · rw [if_neg p, Bool.eq_false_iff.mpr p]; rfl
  rw [if_neg h3, if_neg h3]
  by_cases h4 : a = 4
  · rw [if_pos h4, if_pos h4]
    by_cases p : b = 0
    · by_cases q : s.toList = ([] : List UInt8)
      · rw [if_pos p, if_pos q, decide_eq_true p, decide_eq_true q]; rfl
      · rw [if_pos p, if_neg q, decide_eq_true p, decide_eq_false q]; rfl
    · rw [if_neg p, decide_eq_false p]; rfl
  rw [if_neg h4, if_neg h4]
  by_cases h5 : a = 5
  · rw [if_pos h5, if_pos h5]
    by_cases p : b = 0
    · by_cases q : s.toList = ([] : List UInt8)
      · rw [if_pos p, if_pos q, decide_eq_true p, decide_eq_true q]; rfl
      · rw [if_pos p, if_neg q, decide_eq_true p, decide_eq_false q]; rfl
    · rw [if_neg p, decide_eq_false p]; rfl
  · rw [if_neg h5, if_neg h5]
def measRes (n0 : Nat) (g : Bool) (c : Nat) : Int := if g = true ∧ n0 + c ≤ 300 then ((n0 + c : Nat) : Int) else 301
theorem impl_measure_loop (l : List S28) (hl : (budIL l : Int) ≤ 4194304) (n : Nat) (dp : Int) (hd : dp + n = 8) (hd1 : 1 ≤ dp)
    (h : ∀ y ∈ l, Ev (fun k => impl_Term_measure.f k y.f0 y.f1 y.f2 y.f3 (dp + 1)) (measRes 0 (goodM y n) (countM y))) (d : Nat) :
    ∀ (i : Nat) (m : Nat), i + d = l.length → m ≤ 300 → Ev (fun k => impl_Term_measure.l0 k dp m l (l.length : Int) i) (measRes m (goodML (l.drop i) n) (countML (l.drop i))) := by
  have hlen := budIL_len l
  induction d with
  | zero =>
    intro i m hi hm
    refine Ev.step (f := fun _ => some (m : Int)) (fun k => ?_) (ev_cast ?_ (Ev.now _))
    · simp only [impl_Term_measure.l0]; rw [if_neg (by omega)]
    · rw [List.drop_eq_nil_of_le (by omega), goodML, countML]
      unfold measRes; rw [if_pos ⟨rfl, by omega⟩]; rfl
  | succ d ih =>
    intro i m hi hm
    have hlt : i < l.length := by omega
    have e := h _ (rdI_mem l i hlt)
    rw [dropI l i hlt, goodML, countML]
    generalize hy : rd_T28 l i = y at *
    refine Ev.step (f := fun k => (impl_Term_measure.f k y.f0 y.f1 y.f2 y.f3 (dp + 1)).bind fun t => (if (wrap64 ((m : Int) + t)) > 300 then (some 301) else (impl_Term_measure.l0 k dp (wrap64 ((m : Int) + t)) l (l.length : Int) (wrap64 ((i : Int) + 1))))) (fun k => ?_) (Ev.bind e ?_)
    · simp only [impl_Term_measure.l0]; rw [if_pos (by omega), if_pos (by omega), if_pos (by omega), hy, w64 (dp + 1) (by omega) (by omega)]
    · have hr : 0 ≤ measRes 0 (goodM y n) (countM y) ∧ measRes 0 (goodM y n) (countM y) ≤ 301 := by
        unfold measRes; split <;> omega
      rw [w64 _ (by omega) (by omega), w64 _ (by omega) (by omega)]
      cases hg : goodM y n with
      | false =>
        refine ev_pos (by unfold measRes; simp; omega) (ev_cast ?_ (Ev.now _))
        unfold measRes; simp
      | true =>
        by_cases hq : countM y ≤ 300
        · have hv : measRes 0 true (countM y) = countM y := by unfold measRes; rw [if_pos ⟨rfl, by omega⟩]; omega
          rw [hv]
          by_cases hq2 : (m : Int) + countM y > 300
          · refine ev_pos hq2 (ev_cast ?_ (Ev.now _))
            unfold measRes; rw [if_neg (by omega)]
          · refine ev_neg hq2 ?_
            have := ih (i + 1) (m + countM y) (by omega) (by omega)
            rw [show ((m + countM y : Nat) : Int) = (m : Int) + countM y from by omega] at this
            refine ev_cast ?_ this
            unfold measRes
            rw [Bool.true_and]
            cases goodML (l.drop (i + 1)) n with
            | false => simp
            | true =>
              by_cases hq3 : m + countM y + countML (l.drop (i + 1)) ≤ 300
              · rw [if_pos ⟨rfl, hq3⟩, if_pos ⟨rfl, by omega⟩]; omega
              · rw [if_neg (by omega), if_neg (by omega)]
        · have hv : measRes 0 true (countM y) = 301 := by unfold measRes; rw [if_neg (by omega)]
          rw [hv]
          refine ev_pos (by omega) (ev_cast ?_ (Ev.now _))
          unfold measRes; rw [if_neg (by omega)]
theorem impl_measure_all : ∀ x, (budI x : Int) ≤ 4194304 → ∀ (n : Nat) (dp : Int), dp + n = 9 → 1 ≤ dp → Ev (fun k => impl_Term_measure.f k x.f0 x.f1 x.f2 x.f3 dp) (measRes 0 (goodM x n) (countM x)) := by
  refine indI ?_
  intro a b s l ih hb n dp hd h1
  rw [budI] at hb
  simp only []
  have no : Ev (fun k => impl_Term_measure.j0 k dp true a b s l) 301 := Ev.step (f := fun _ => some 301) (fun k => by simp [impl_Term_measure.j0]) (Ev.now _)
  cases n with
  | zero =>
    refine Ev.step (fun k => ?_) (ev_cast ?_ no)
    · simp only [impl_Term_measure.f]; rw [if_pos (by omega)]
    · rw [goodM]; unfold measRes; simp
  | succ n =>
    rw [goodM, countM]
    refine Ev.step (f := fun k => (impl_Term_plainOk.f k a b s l).bind fun t => (impl_Term_measure.j0 k dp (!t) a b s l)) (fun k => ?_) (Ev.bind (impl_plainOk_ev a b s l (by omega)) ?_)
    · simp only [impl_Term_measure.f]; rw [if_neg (by omega)]
    cases hsh : shapeM a b s l with
    | false => exact ev_cast (by unfold measRes; simp) no
    | true =>
      have e := impl_measure_loop l (by omega) n dp (by omega) h1 (fun y hy => ih y hy (by have := budI_mem l y hy; omega) n (dp + 1) (by omega) (by omega)) l.length 0 1 (by omega) (by omega)
      refine Ev.step (fun k => ?_) (ev_cast ?_ e)
      · simp only [impl_Term_measure.j0]; rw [if_neg (by decide)]; rfl
      · rw [List.drop_zero, Bool.true_and]
        unfold measRes
        rw [Nat.zero_add]
theorem impl_TermOk_ev (x : S28) (hb : (budI x : Int) ≤ 4194304) : Ev (fun k => impl_TermOk.f k x.f0 x.f1 x.f2 x.f3) (termOkM x) := by
  unfold impl_TermOk.f
  refine Ev.bind (impl_measure_all x hb 8 1 (by omega) (by omega)) (ev_cast ?_ (Ev.now _))
  unfold termOkM measRes
  cases goodM x 8 with
  | false => simp
  | true =>
    by_cases hq : countM x ≤ 300
    · rw [if_pos ⟨rfl, by omega⟩, decide_eq_true hq]; simp; omega
    · rw [if_neg (by omega), decide_eq_false hq]; rfl
theorem impl_isOp_eq (s : ByteArray) : impl_isOp.f s = some (opL s.toList) := by
  unfold impl_isOp.f opL
  generalize s.toList = l
  by_cases h1 : l = [43]
  · rw [if_pos h1]; simp [h1]
  rw [if_neg h1]
  by_cases h2 : l = [45]
  · rw [if_pos h2]; simp [h2]
  rw [if_neg h2]
  by_cases h3 : l = [42]
  · rw [if_pos h3]; simp [h3]
  rw [if_neg h3]
  by_cases h4 : l = [61, 61]
  · rw [if_pos h4]; simp [h4]
  rw [if_neg h4]
  by_cases h5 : l = [60] <;> simp [h1, h2, h3, h4, h5]
theorem iTruth_eq (b : Bool) : impl_truth.f b = some ((boolT b).1, (boolT b).2.1, (boolT b).2.2.1, (boolT b).2.2.2.1) := by
  unfold impl_truth.f boolT
  cases b <;> rfl
theorem boolT_eta (b : Bool) : ((boolT b).1, (boolT b).2.1, (boolT b).2.2.1, (boolT b).2.2.2.1, (0 : Int)) = boolT b := by unfold boolT; cases b <;> rfl
theorem mx_abs (a : Int) (ha : -1000000000000 ≤ a ∧ a ≤ 1000000000000) : mx a (wrap64 (-a)) = (a.natAbs : Int) := by
  rw [w64 (-a) (by omega) (by omega)]
  unfold mx
  split <;> omega
theorem iProduct_ev (a b : Int) (ha : -1000000000000 ≤ a ∧ a ≤ 1000000000000) (hb : -1000000000000 ≤ b ∧ b ≤ 1000000000000) : Ev (fun k => (impl_product.f k a b).bind fun bt343 => (if bt343.2 = true then ((impl_inRange.f bt343.1 (-1000000000000) 1000000000000).bind fun t345 => (if t345 = true then (some (numT bt343.1)) else (some (zeroT 3)))) else (some (zeroT 3)))) (rngT (a * b)) := by
  have z : a = 0 ∨ b = 0 → Ev (fun k => impl_product.j0 k a b true) (a * b, true) := fun h => by
    have e : a * b = 0 := by rcases h with h | h <;> rw [h] <;> simp
    rw [e]
    exact Ev.step (f := fun _ => some (0, true)) (fun k => by simp only [impl_product.j0]; rw [if_pos trivial]) (Ev.now _)
  have done : Ev (fun k => impl_product.f k a b) (a * b, true) → Ev (fun k => (impl_product.f k a b).bind fun bt343 => (if bt343.2 = true then ((impl_inRange.f bt343.1 (-1000000000000) 1000000000000).bind fun t345 => (if t345 = true then (some (numT bt343.1)) else (some (zeroT 3)))) else (some (zeroT 3)))) (rngT (a * b)) := fun e =>
    Ev.bind e (ev_pos rfl (Ev.bind (ev_of (impl_inRange_eq _ _ _)) (rngT_ev _)))
  by_cases h1 : a = 0
  · refine done ?_
    unfold impl_product.f
    exact ev_pos h1 (z (.inl h1))
  by_cases h2 : b = 0
  · refine done ?_
    unfold impl_product.f
    have e2 : (b == 0) = true := beq_iff_eq.2 h2
    rw [e2]
    exact ev_neg h1 (z (.inr h2))
  have e2 : (b == 0) = false := beq_eq_false_iff_ne.2 h2
  have hk := abs_mul_lt a b ha hb h2 _ _ rfl rfl
  have hB : ¬ ((b.natAbs : Int) = 0) := by omega
  have hq : wrap64 ((1000000000000 : Int) / (b.natAbs : Int)) = (1000000000000 : Int) / (b.natAbs : Int) := by
    have q0 : 0 ≤ (1000000000000 : Int) / (b.natAbs : Int) := Int.ediv_nonneg (by omega) (by omega)
    have q1 : (1000000000000 : Int) / (b.natAbs : Int) ≤ 1000000000000 := Int.ediv_le_self _ (by omega)
    exact w64 _ (by omega) (by omega)
  by_cases hc : -1000000000000 ≤ a * b ∧ a * b ≤ 1000000000000
  · refine done ?_
    unfold impl_product.f
    rw [e2]
    refine ev_neg h1 (Ev.step (f := fun _ => some (a * b, true)) (fun k => ?_) (Ev.now _))
    simp only [impl_product.j0]
    rw [if_neg (by decide), mx_abs b hb, mx_abs a ha, if_neg hB, hq, if_neg (fun h => (hk.1 h) hc), w64 _ (by omega) (by omega)]
  · have er : rngT (a * b) = zeroT 3 := by unfold rngT; rw [if_neg hc]
    rw [er]
    refine Ev.bind (a := (0, false)) ?_ (ev_neg (by decide) (Ev.now _))
    unfold impl_product.f
    rw [e2]
    refine ev_neg h1 (Ev.step (f := fun _ => some (0, false)) (fun k => ?_) (Ev.now _))
    simp only [impl_product.j0]
    rw [if_neg (by decide), mx_abs b hb, mx_abs a ha, if_neg hB, hq, if_pos (hk.2 hc)]
theorem iArith_ev (op : ByteArray) (a b : Int) (ha : -1000000000000 ≤ a ∧ a ≤ 1000000000000) (hb : -1000000000000 ≤ b ∧ b ≤ 1000000000000) : Ev (fun k => impl_arith.f k op a b) (arithM op.toList a b) := by
  unfold impl_arith.f arithM
  rw [w64 (a + b) (by omega) (by omega), w64 (a - b) (by omega) (by omega)]
  by_cases h1 : op.toList = [43]
  · exact evT h1 (Ev.bind (ev_of (impl_inRange_eq _ _ _)) (rngT_ev _))
  refine evF h1 ?_
  by_cases h2 : op.toList = [45]
  · exact evT h2 (Ev.bind (ev_of (impl_inRange_eq _ _ _)) (rngT_ev _))
  refine evF h2 ?_
  exact iProduct_ev a b ha hb
theorem iOper_ev (op : ByteArray) (x y : S28) (hx : (budI x : Int) ≤ 4194304) (hy : (budI y : Int) ≤ 4194304) (ox : termOkM x = true) (oy : termOkM y = true) : Ev (fun k => impl_operate.f k op x.f0 x.f1 x.f2 x.f3 y.f0 y.f1 y.f2 y.f3) (operG op.toList x y) := by
  unfold impl_operate.f operG
  by_cases h1 : op.toList = [61, 61]
  · refine evT h1 (Ev.bind (impl_Same_all x hx y) (Ev.bind (ev_of (iTruth_eq _)) (ev_cast (boolT_eta _) (Ev.now _))))
  refine evF h1 ?_
  by_cases h2 : op.toList = [60]
  · refine evT h2 (Ev.bind (impl_LessTerm_ev x y hx) (Ev.bind (ev_of (iTruth_eq _)) (ev_cast (boolT_eta _) (Ev.now _))))
  refine evF h2 ?_
  by_cases h3 : x.f0 = 1
  · refine ev_pos h3 ?_
    by_cases h4 : y.f0 = 1
    · exact ev_cast (if_pos ⟨h3, h4⟩).symm (ev_pos h4 (Ev.bind (iArith_ev op x.f1 y.f1 (good_num ox h3).1 (good_num oy h4).1) (Ev.now _)))
    · exact ev_cast (if_neg (fun h => h4 h.2)).symm (ev_neg h4 (Ev.now _))
  · exact ev_cast (if_neg (fun h => h3 h.1)).symm (ev_neg h3 (Ev.now _))
theorem impl_Operate_ev (op : ByteArray) (x y : S28) (hx : (budI x : Int) ≤ 4194304) (hy : (budI y : Int) ≤ 4194304) : Ev (fun k => impl_Operate.f k op x.f0 x.f1 x.f2 x.f3 y.f0 y.f1 y.f2 y.f3) (operM op.toList x y) := by
  unfold impl_Operate.f operM
  refine Ev.bind (ev_of (impl_isOp_eq _)) ?_
  by_cases h1 : opL op.toList = true
  · refine evT h1 (Ev.bind (impl_TermOk_ev x hx) ?_)
    by_cases h2 : termOkM x = true
    · refine evT h2 (Ev.bind (impl_TermOk_ev y hy) ?_)
      by_cases h3 : termOkM y = true
      · exact evT h3 (Ev.bind (iOper_ev op x y hx hy h2 h3) (Ev.now _))
      · exact evF h3 (Ev.now _)
    · exact evF h2 (Ev.now _)
  · exact evF h1 (Ev.now _)
theorem str_one (x : Int) : (strOfNums [x]).size = 1 := by unfold strOfNums; rfl
theorem laws_markText_l0 (m : Nat) : ∀ (n : Nat) (x3 : ByteArray), n ≤ m → n ≤ 4000000000 → x3.size + n ≤ 5000000000 → ∃ r, Ev (fun k => laws_markText.l0 k (n : Int) x3) r := by
  have z : ∀ x3 : ByteArray, x3.size ≤ 5000000000 → ∃ r, Ev (fun k => laws_markText.l0 k ((0 : Nat) : Int) x3) r := fun x3 hs =>
    ⟨_, Ev.step (f := fun _ => (if 1 + x3.size ≤ 9223372036854775807 then (some ((⟨#[109]⟩ : ByteArray) ++ x3)) else none)) (fun k => by simp only [laws_markText.l0]; rw [if_neg (by omega)]) (ev_pos (by omega) (Ev.now _))⟩
  induction m with
  | zero =>
    intro n x3 hm h1 h2
    obtain rfl : n = 0 := by omega
    exact z x3 (by omega)
  | succ m ih =>
    intro n x3 hm h1 h2
    by_cases h0 : n = 0
    · subst h0; exact z x3 (by omega)
    · have ht : wrap64 (Int.tdiv (n : Int) 10) = ((n / 10 : Nat) : Int) := by
        rw [Int.tdiv_eq_ediv_of_nonneg (by omega), w64 _ (by omega) (by omega)]; omega
      obtain ⟨r, e⟩ := ih (n / 10) (strOfNums [(wrap64 (48 + (Int.tmod (n : Int) 10))) % 256] ++ x3) (by omega) (by omega) (by rw [ByteArray.size_append, str_one]; omega)
      refine ⟨r, Ev.step (f := fun k => (some (([(wrap64 (48 + (Int.tmod (n : Int) 10))) % 256] : List Int) : List Int)).bind fun y => (if (strOfNums y).size + x3.size ≤ 9223372036854775807 then (laws_markText.l0 k (wrap64 (Int.tdiv (n : Int) 10)) ((strOfNums y) ++ x3)) else (none))) (fun k => ?_) (Ev.bind (Ev.now _) (ev_pos ?_ ?_))⟩
      · simp only [laws_markText.l0]; rw [if_pos (by omega)]
      · rw [str_one]; omega
      · rw [ht]; exact e
theorem laws_markText_ev (n : Int) (h0 : 0 ≤ n) (h1 : n ≤ 4000000000) : ∃ r, Ev (fun k => laws_markText.f k n) r := by
  unfold laws_markText.f
  by_cases h : n ≤ 0
  · exact ⟨_, ev_pos h (Ev.now _)⟩
  · obtain ⟨m, rfl⟩ : ∃ m : Nat, n = (m : Int) := ⟨n.toNat, by omega⟩
    obtain ⟨r, e⟩ := laws_markText_l0 m m ⟨#[]⟩ (by omega) (by omega) (by show 0 + m ≤ _; omega)
    exact ⟨r, ev_neg h e⟩
theorem markS_loop (l : List S28) (hl : (budIL l : Int) ≤ 4194304) (h : ∀ y ∈ l, ∀ x1 : Int, 0 ≤ x1 → x1 + 3 * countML y.f3 ≤ 100000000 → Ev (fun k => laws_markTermS.f k y.f3 x1) (x1 + 3 * countML y.f3)) (d : Nat) :
    ∀ (i : Nat) (x1 : Int), i + d = l.length → 0 ≤ x1 → x1 + 3 * countML (l.drop i) ≤ 100000000 → Ev (fun k => laws_markTermS.l0 k l x1 i) (x1 + 3 * countML (l.drop i)) := by
  have hll := budIL_len l
  induction d with
  | zero =>
    intro i x1 hi h0 hb
    refine Ev.step (f := fun _ => some x1) (fun k => ?_) (ev_cast ?_ (Ev.now _))
    · simp only [laws_markTermS.l0]; rw [if_neg (by omega)]
    · rw [List.drop_eq_nil_of_le (by omega), countML]; omega
  | succ d ih =>
    intro i x1 hi h0 hb
    have hlt : i < l.length := by omega
    have hc : (countML (l.drop i) : Int) = 1 + countML l[i].f3 + countML (l.drop (i + 1)) := by
      rw [List.drop_eq_getElem_cons hlt, countML]
      have : countM l[i] = 1 + countML l[i].f3 := by
        conv => lhs; rw [← etaI l[i]]
        rw [countM]
      omega
    obtain ⟨r, e⟩ := laws_markText_ev (x1 + 1 + 1) (by omega) (by omega)
    refine Ev.step (f := fun k => (laws_markText.f k (x1 + 1 + 1)).bind fun _ => ((laws_markTermS.f k l[i].f3 (x1 + 1 + 1 + 1)).bind fun t3 => (laws_markTermS.l0 k l t3 (wrap64 ((i : Int) + 1))))) (fun k => ?_) (Ev.bind e (Ev.bind (h l[i] (List.getElem_mem hlt) (x1 + 1 + 1 + 1) (by omega) (by omega)) ?_))
    · simp only [laws_markTermS.l0]
      rw [if_pos (by omega), if_pos (by omega), rdIx2 l i hlt, w64 (x1 + 1) (by omega) (by omega), w64 (x1 + 1 + 1) (by omega) (by omega), w64 (x1 + 1 + 1 + 1) (by omega) (by omega)]
    · rw [w64 _ (by omega) (by omega)]
      exact ev_cast (by omega) (ih (i + 1) _ (by omega) (by omega) (by omega))
theorem markS_of (l : List S28) (hl : (budIL l : Int) ≤ 4194304) (h : ∀ y ∈ l, ∀ x1 : Int, 0 ≤ x1 → x1 + 3 * countML y.f3 ≤ 100000000 → Ev (fun k => laws_markTermS.f k y.f3 x1) (x1 + 3 * countML y.f3)) (x1 : Int) (h0 : 0 ≤ x1) (h1 : x1 + 3 * countML l ≤ 100000000) : Ev (fun k => laws_markTermS.f k l x1) (x1 + 3 * countML l) := by
  have e := markS_loop l hl h l.length 0 x1 (by omega) h0 h1
  rw [List.drop_zero] at e
  exact Ev.step (fun k => by simp only [laws_markTermS.f]; rfl) e
theorem markS_all : ∀ x : S28, (budI x : Int) ≤ 4194304 → ∀ x1 : Int, 0 ≤ x1 → x1 + 3 * countML x.f3 ≤ 100000000 → Ev (fun k => laws_markTermS.f k x.f3 x1) (x1 + 3 * countML x.f3) := by
  refine indI (fun a b s l ih hb x1 h0 h1 => ?_)
  rw [budI_mk] at hb
  exact markS_of l (by omega) (fun y hy x2 h2 h3 => ih y hy (by have := budI_mem l y hy; omega) x2 h2 h3) x1 h0 h1
theorem markTerm_ev (a b : Int) (s : ByteArray) (l : List S28) (hb : (budI ⟨a, b, s, l⟩ : Int) ≤ 4194304) : Ev (fun k => laws_markTerm.f k a b s l 1) (1 + 3 * countML l) := by
  unfold laws_markTerm.f
  have := countL_bud l
  have hb2 := hb
  rw [budI_mk] at hb2
  exact Ev.bind (markS_all ⟨a, b, s, l⟩ hb 1 (by omega) (by show 1 + 3 * (countML l : Int) ≤ _; omega)) (Ev.now _)
theorem operForm (op : List UInt8) (x y : S28) : ∃ (a b : Int) (s : ByteArray) (c : Int), operM op x y = (a, b, s, [], c) ∧ s.size ≤ 5 := by
  have z : ∀ c, ∃ (a b : Int) (s : ByteArray) (c' : Int), zeroT c = (a, b, s, [], c') ∧ s.size ≤ 5 := fun c => ⟨_, _, _, _, rfl, by decide⟩
  have t : ∀ q, ∃ (a b : Int) (s : ByteArray) (c' : Int), boolT q = (a, b, s, [], c') ∧ s.size ≤ 5 := fun q => by
    unfold boolT; cases q
    · exact ⟨_, _, _, _, rfl, by decide⟩
    · exact ⟨_, _, _, _, rfl, by decide⟩
  have r : ∀ n, ∃ (a b : Int) (s : ByteArray) (c' : Int), rngT n = (a, b, s, [], c') ∧ s.size ≤ 5 := fun n => by
    unfold rngT
    split
    · exact ⟨_, _, _, _, rfl, by decide⟩
    · exact z 3
  unfold operM operG arithM
  repeat' first
    | exact z _
    | exact t _
    | exact r _
    | split
theorem markTerm_from (a b : Int) (s : ByteArray) (l : List S28) (n : Int) (h0 : 0 ≤ n) (hn : n ≤ 50000000) (hb : (budI ⟨a, b, s, l⟩ : Int) ≤ 4194304) : Ev (fun k => laws_markTerm.f k a b s l n) (n + 3 * countML l) := by
  unfold laws_markTerm.f
  have := countL_bud l
  have hb2 := hb
  rw [budI_mk] at hb2
  exact Ev.bind (markS_all ⟨a, b, s, l⟩ hb n h0 (by show n + 3 * (countML l : Int) ≤ _; omega)) (Ev.now _)
theorem heldNil (a b : Int) (s : ByteArray) : Ev (fun k => laws_heldTerm.f k a b s [] 1) 1 := by
  unfold laws_heldTerm.f
  refine Ev.bind (a := 1) ?_ (ev_neg (by decide) (Ev.now _))
  refine Ev.step (fun k => by simp only [laws_heldTermS.f]; rfl) ?_
  exact Ev.step (f := fun _ => some 1) (fun k => by simp only [laws_heldTermS.l0]; rw [if_neg (by decide)]) (Ev.now _)
theorem FnExactOperate : laws_FnExactOperate.Pure := by
  intro op a b s l a2 b2 s2 m ho hw hw2
  refine Ev.rounds (g := fun k => laws_FnExactOperate.f k op a b s l a2 b2 s2 m) ?_
  unfold laws_FnExactOperate.f
  by_cases hop : (op.size : Int) > 1048576
  · exact ev_pos hop (Ev.now _)
  refine ev_neg hop ?_
  refine Ev.step (fun k => by simp only [laws_FnExactOperate.j0]; rfl) ?_
  refine Ev.bind (szTerm_ev a b s l hw 1048576 (by omega) (by omega)) ?_
  unfold szRes
  by_cases hb : (budL ⟨a, b, s, l⟩ : Int) ≤ 1048576
  · rw [if_pos hb]
    refine ev_neg (by omega) ?_
    have hi : (budI (cv ⟨a, b, s, l⟩) : Int) ≤ 1048576 := by rw [bud_cv]; exact hb
    rw [cv] at hi
    have ht := toTerm_ev a b s l hb
    generalize hx : (1048576 : Int) - (budL ⟨a, b, s, l⟩ : Int) = x5
    refine Ev.step (fun k => by simp only [laws_FnExactOperate.j1]; rfl) ?_
    refine Ev.bind (szTerm_ev a2 b2 s2 m hw2 x5 (by omega) (by omega)) ?_
    unfold szRes
    by_cases hb2 : (budL ⟨a2, b2, s2, m⟩ : Int) ≤ x5
    · rw [if_pos hb2]
      refine ev_neg (by omega) ?_
      have hi2 : (budI (cv ⟨a2, b2, s2, m⟩) : Int) ≤ 1048576 := by rw [bud_cv]; omega
      rw [cv] at hi2
      have ht2 := toTerm_ev a2 b2 s2 m (by omega)
      have es := spec_Operate_ev op ⟨a, b, s, cvL l⟩ ⟨a2, b2, s2, cvL m⟩ (by omega) (by omega)
      have ei := impl_Operate_ev op ⟨a, b, s, cvL l⟩ ⟨a2, b2, s2, cvL m⟩ (by omega) (by omega)
      obtain ⟨ga, gb, gs, gc, hG, hs⟩ := operForm op.toList ⟨a, b, s, cvL l⟩ ⟨a2, b2, s2, cvL m⟩
      rw [hG] at es ei
      have eg := eqTerm_ev ga gb gs [] (by rw [budI_mk, budIL]; omega)
      have eh := heldNil ga gb gs
      have c1 := countL_bud (cvL l)
      have hi' := hi
      rw [budI_mk] at hi'
      refine Ev.step (fun k => by simp only [laws_FnExactOperate.j2]; rfl) ?_
      refine Ev.bind ht (Ev.bind ht2 (Ev.bind es (Ev.bind ht (Ev.bind ht2 (Ev.bind ei (Ev.bind eg (ev_pos rfl ?_)))))))
      refine Ev.step (f := fun k => laws_FnExactOperate.j4 k op gc gc a b s l a2 b2 s2 m ga gb gs [] a b s (cvL l) a2 b2 s2 (cvL m) ga gb gs []) (fun k => by simp only [laws_FnExactOperate.j3]; rw [if_neg (by simp)]) ?_
      refine Ev.step (fun k => by simp only [laws_FnExactOperate.j4]; rfl) ?_
      refine Ev.bind ht (Ev.bind (eqTerm_ev a b s (cvL l) (by omega)) (ev_pos rfl ?_))
      refine Ev.step (fun k => by simp only [laws_FnExactOperate.j5]; rfl) ?_
      refine Ev.bind ht2 (Ev.bind (eqTerm_ev a2 b2 s2 (cvL m) (by omega)) (ev_pos rfl ?_))
      refine Ev.step (fun k => by simp only [laws_FnExactOperate.j6]; rfl) ?_
      refine Ev.bind (markTerm_ev a b s (cvL l) (by omega)) (Ev.bind (markTerm_from a2 b2 s2 (cvL m) _ (by omega) (by omega) (by omega)) (ev_neg (by omega) (Ev.bind eg (ev_pos rfl ?_))))
      refine Ev.step (f := fun k => laws_FnExactOperate.j8 k op gc a b s l a2 b2 s2 m ga gb gs [] ga gb gs []) (fun k => by simp only [laws_FnExactOperate.j7]; rw [if_neg (by simp)]) ?_
      refine Ev.step (fun k => by simp only [laws_FnExactOperate.j8]; rfl) ?_
      refine Ev.bind (a := 1) (ev_of rfl) (Ev.bind eh (ev_neg (by decide) ?_))
      refine Ev.step (f := fun k => laws_FnExactOperate.j10 k op gc 1 a b s l a2 b2 s2 m ga gb gs [] ga gb gs []) (fun k => by simp only [laws_FnExactOperate.j9]; rw [if_pos trivial]) ?_
      refine Ev.step (fun k => by simp only [laws_FnExactOperate.j10]; rfl) ?_
      refine Ev.bind ht (Ev.bind ht2 (Ev.bind ei (Ev.bind eg (ev_pos rfl ?_))))
      refine Ev.step (f := fun k => laws_FnExactOperate.j12 k 1 ga gb gs []) (fun k => by simp only [laws_FnExactOperate.j11]; rw [if_neg (by simp)]) ?_
      refine Ev.step (fun k => by simp only [laws_FnExactOperate.j12]; rfl) ?_
      exact Ev.bind eh (ev_neg (by decide) (ev_pos rfl (Ev.now _)))
    · rw [if_neg hb2]
      exact ev_pos (by omega) (Ev.now _)
  · rw [if_neg hb]
    exact ev_pos (by omega) (Ev.now _)

end Go.Proofs.Ytiooogcjoobjnaa.Pure
