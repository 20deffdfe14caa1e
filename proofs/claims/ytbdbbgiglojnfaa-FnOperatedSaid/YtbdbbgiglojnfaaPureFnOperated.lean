/- What the law FnOperated of this seat says holds for every input that its row speaks of; no further condition. -/
import Derived.Test.YtbdbbgiglojnfaaQFnOperatedx15
import Derived.Lib.Strings
set_option linter.unusedVariables false
set_option linter.unusedSimpArgs false
namespace Go.Proofs.Ytbdbbgiglojnfaa.Pure
open Go.RowKit Go.Proofs.Ytbdbbgiglojnfaa.QFnOperated Go.Proofs.YtbdbbgiglojnfaaW.PrintWords Go.Proofs.YtbdbbgiglojnfaaW.PrintLast Go.Proofs.YtbdbbgiglojnfaaW.PrintMore

theorem ev_pos {α : Type} {c : Prop} [Decidable c] {A B : Nat → Option α} {r : α} (h : c) (e : Ev A r) : Ev (fun k => if c then A k else B k) r := by
  obtain ⟨K, hK⟩ := e
  exact ⟨K, fun k hk => by simp only [if_pos h]; exact hK k hk⟩
theorem ev_neg {α : Type} {c : Prop} [Decidable c] {A B : Nat → Option α} {r : α} (h : ¬ c) (e : Ev B r) : Ev (fun k => if c then A k else B k) r := by
  obtain ⟨K, hK⟩ := e
  exact ⟨K, fun k hk => by simp only [if_neg h]; exact hK k hk⟩
theorem ev_of {α : Type} {o : Option α} {r : α} (h : o = some r) : Ev (fun _ => o) r := ⟨0, fun _ _ => h⟩
theorem ev_cast {α : Type} {g : Nat → Option α} {r r' : α} (h : r = r') (e : Ev g r) : Ev g r' := h ▸ e
theorem w64 (n : Int) (h0 : -9223372036854775808 ≤ n) (h1 : n ≤ 9223372036854775807) : wrap64 n = n := by unfold wrap64; omega
theorem dec_and (p q : Prop) [Decidable p] [Decidable q] : decide (p ∧ q) = (decide p && decide q) := by
  by_cases hp : p <;> by_cases hq : q <;> simp [hp, hq]
theorem laws_big_eq (l : List Int) : laws_big.f l = some (decide ((l.length : Int) > 1048576)) := rfl
def lowB (c : Int) : Bool := decide (97 ≤ c) && decide (c ≤ 122)
def digB (c : Int) : Bool := decide (48 ≤ c) && decide (c ≤ 57)
def atomFrom (s : ByteArray) (i : Nat) : Bool := (List.range' i (s.size - i)).all fun j => lowB (bt s j) || (!decide (j = 0) && (digB (bt s j) || decide (bt s j = 95)))
def atomOkM (s : ByteArray) : Bool := atomFrom s 0 && (decide (1 ≤ (s.size : Int)) && decide ((s.size : Int) ≤ 20))
theorem atomFrom_end (s : ByteArray) (i : Nat) (h : s.size ≤ i) : atomFrom s i = true := by
  unfold atomFrom
  rw [Nat.sub_eq_zero_of_le h]; rfl
theorem atomFrom_step (s : ByteArray) (i : Nat) (h : i < s.size) : atomFrom s i = ((lowB (bt s i) || (!decide (i = 0) && (digB (bt s i) || decide (bt s i = 95)))) && atomFrom s (i + 1)) := by
  unfold atomFrom
  obtain ⟨n, hn⟩ : ∃ n, s.size - i = n + 1 := ⟨s.size - i - 1, by omega⟩
  rw [hn, show s.size - (i + 1) = n from by omega, List.range'_succ]
  simp [List.all_cons]
theorem wbt (s : ByteArray) (i : Int) : wrap64 (bt s i) = bt s i := by
  have := bt_range s i
  exact w64 _ (by omega) (by omega)
def opL (l : List UInt8) : Bool := decide (l = [43]) || (decide (l = [45]) || (decide (l = [42]) || (decide (l = [61, 61]) || decide (l = [60]))))
theorem indI {P : S26 → Prop} (h : ∀ a b s l, (∀ y ∈ l, P y) → P ⟨a, b, s, l⟩) : ∀ x, P x := by
  intro x
  refine S26.rec (motive_1 := P) (motive_2 := fun l => ∀ y ∈ l, P y) ?_ ?_ ?_ x
  · intro a b s l hl
    exact h a b s l hl
  · intro y hy; cases hy
  · intro x r hx hr y hy
    rcases List.mem_cons.1 hy with rfl | hy
    · exact hx
    · exact hr y hy
mutual
def budI : S26 → Nat
  | ⟨_, _, s, l⟩ => s.size + budIL l
def budIL : List S26 → Nat
  | [] => 0
  | x :: r => 1 + budI x + budIL r
end
theorem budI_mk (a b : Int) (s : ByteArray) (l : List S26) : budI ⟨a, b, s, l⟩ = s.size + budIL l := by rw [budI]
theorem budIL_len : ∀ l : List S26, l.length ≤ budIL l
  | [] => by simp [budIL]
  | x :: r => by
    have := budIL_len r
    rw [budIL, List.length_cons]; omega
theorem rdI_mem (l : List S26) (i : Nat) (h : i < l.length) : rd_T26 l i ∈ l := by
  unfold rd_T26
  simp [List.getD_eq_getElem?_getD, List.getElem?_eq_getElem h]
theorem dropI (l : List S26) (i : Nat) (h : i < l.length) : l.drop i = rd_T26 l i :: l.drop (i + 1) := by
  rw [List.drop_eq_getElem_cons h]
  unfold rd_T26
  simp [List.getElem?_eq_getElem h]
theorem budI_mem : ∀ (l : List S26) (x : S26), x ∈ l → budI x + 1 ≤ budIL l
  | [], x, h => by cases h
  | y :: r, x, h => by
    rw [budIL]
    rcases List.mem_cons.1 h with rfl | h
    · omega
    · have := budI_mem r x h; omega
theorem etaI (x : S26) : (⟨x.f0, x.f1, x.f2, x.f3⟩ : S26) = x := by cases x; rfl
mutual
def sameM : S26 → S26 → Bool
  | ⟨a, b, s, l⟩, y => decide (a = y.f0) && (decide (b = y.f1) && (decide (s.toList = y.f2.toList) && sameML l y.f3))
def sameML : List S26 → List S26 → Bool
  | [], l => l.isEmpty
  | x :: r, l => match l with
    | [] => false
    | y :: r2 => sameM x y && sameML r r2
end
theorem sameML_len : ∀ l m, sameML l m = true → l.length = m.length
  | [], m, h => by rw [sameML] at h; cases m <;> simp_all
  | x :: r, [], h => by rw [sameML] at h; cases h
  | x :: r, y :: r2, h => by
    rw [sameML, Bool.and_eq_true] at h
    rw [List.length_cons, List.length_cons, sameML_len r r2 h.2]
mutual
def countM : S26 → Nat
  | ⟨_, _, _, l⟩ => 1 + countML l
def countML : List S26 → Nat
  | [] => 0
  | x :: r => countM x + countML r
end
def noText (s : ByteArray) : Bool := decide (s.toList = ([] : List UInt8))
def shapeM (a b : Int) (s : ByteArray) (l : List S26) : Bool :=
  if a = 1 then (decide (-1000000000000 ≤ b) && decide (b ≤ 1000000000000)) && (noText s && ((l.length : Int) == 0))
  else if a = 2 then atomOkM s && (decide (b = 0) && ((l.length : Int) == 0))
  else if a = 3 then (decide (0 ≤ b) && decide (b ≤ 1000000)) && (noText s && ((l.length : Int) == 0))
  else if a = 4 then decide (b = 0) && (noText s && decide ((l.length : Int) ≤ 20))
  else if a = 5 then decide (b = 0) && (noText s && decide ((l.length : Int) ≤ 60))
  else false
mutual
def goodM : S26 → Nat → Bool
  | ⟨a, b, s, l⟩, n => match n with
    | 0 => false
    | n + 1 => shapeM a b s l && goodML l n
def goodML : List S26 → Nat → Bool
  | [], _ => true
  | x :: r, n => goodM x n && goodML r n
end
def termOkM (x : S26) : Bool := goodM x 8 && decide (countM x ≤ 300)
theorem count_pos (x : S26) : 1 ≤ countM x := by
  cases x; rw [countM]; omega
theorem hk63 (n : Int) (h0 : 0 ≤ n) (h1 : n < 2 ^ 63) : IntKind.i64.wrap n = n := by
  rw [IntKind.wrap_i64]; omega
theorem good_mk {a b : Int} {s : ByteArray} {l : List S26} {n : Nat} (h : goodM ⟨a, b, s, l⟩ n = true) : ∃ m, n = m + 1 ∧ shapeM a b s l = true ∧ goodML l m = true := by
  cases n with
  | zero => rw [goodM] at h; cases h
  | succ m =>
    rw [goodM, Bool.and_eq_true] at h
    exact ⟨m, rfl, h.1, h.2⟩
theorem goodL_mem : ∀ (l : List S26) (n : Nat), goodML l n = true → ∀ y ∈ l, goodM y n = true
  | [], _, _, y, hy => by cases hy
  | x :: r, n, h, y, hy => by
    rw [goodML, Bool.and_eq_true] at h
    rcases List.mem_cons.1 hy with rfl | hy
    · exact h.1
    · exact goodL_mem r n h.2 y hy
theorem noText_eq {s : ByteArray} (h : noText s = true) : s = ⟨#[]⟩ := by
  unfold noText at h
  rw [decide_eq_true_eq, Go.Lib.toList_data] at h
  apply ByteArray.ext
  exact Array.toList_inj.1 h
theorem len0_eq {l : List S26} (h : ((l.length : Int) == 0) = true) : l = [] := by
  rw [beq_iff_eq] at h
  exact List.eq_nil_of_length_eq_zero (by omega)
/-- What a right term of a kind is. -/
theorem shape_cases {a b : Int} {s : ByteArray} {l : List S26} (h : shapeM a b s l = true) :
    (a = 1 ∧ -1000000000000 ≤ b ∧ b ≤ 1000000000000 ∧ s = ⟨#[]⟩ ∧ l = []) ∨ (a = 2 ∧ b = 0 ∧ atomOkM s = true ∧ l = []) ∨ (a = 3 ∧ 0 ≤ b ∧ b ≤ 1000000 ∧ s = ⟨#[]⟩ ∧ l = []) ∨ ((a = 4 ∨ a = 5) ∧ b = 0 ∧ s = ⟨#[]⟩ ∧ l.length ≤ 60) := by
  unfold shapeM at h
  by_cases h1 : a = 1
  · rw [if_pos h1] at h
    simp only [Bool.and_eq_true, decide_eq_true_eq] at h
    exact .inl ⟨h1, h.1.1, h.1.2, noText_eq h.2.1, len0_eq h.2.2⟩
  rw [if_neg h1] at h
  by_cases h2 : a = 2
  · rw [if_pos h2] at h
    simp only [Bool.and_eq_true, decide_eq_true_eq] at h
    exact .inr (.inl ⟨h2, h.2.1, h.1, len0_eq h.2.2⟩)
  rw [if_neg h2] at h
  by_cases h3 : a = 3
  · rw [if_pos h3] at h
    simp only [Bool.and_eq_true, decide_eq_true_eq] at h
    exact .inr (.inr (.inl ⟨h3, h.1.1, h.1.2, noText_eq h.2.1, len0_eq h.2.2⟩))
  rw [if_neg h3] at h
  by_cases h4 : a = 4
  · rw [if_pos h4] at h
    simp only [Bool.and_eq_true, decide_eq_true_eq] at h
    exact .inr (.inr (.inr ⟨.inl h4, h.1, noText_eq h.2.1, by omega⟩))
  rw [if_neg h4] at h
  by_cases h5 : a = 5
  · rw [if_pos h5] at h
    simp only [Bool.and_eq_true, decide_eq_true_eq] at h
    exact .inr (.inr (.inr ⟨.inr h5, h.1, noText_eq h.2.1, by omega⟩))
  rw [if_neg h5] at h
  cases h
def cI (x y : Int) : Int := if x < y then -1 else if x > y then 1 else 0
def cB (s t : List UInt8) : Int := if Op.bytesLess s t = true then -1 else if Op.bytesLess t s = true then 1 else 0
mutual
def cmpM : S26 → S26 → Int
  | ⟨a, b, s, l⟩, y => if a = y.f0 then (if a = 1 ∨ a = 3 then cI b y.f1 else if a = 2 then cB s.toList y.f2.toList else if a = 4 then (if l.length = y.f3.length then cmpL l y.f3 else cI l.length y.f3.length) else if a = 5 then cmpL l y.f3 else 0) else cI a y.f0
def cmpL : List S26 → List S26 → Int
  | [], l => if l.isEmpty then 0 else -1
  | x :: r, l => match l with
    | [] => 1
    | y :: r2 => if cmpM x y = 0 then cmpL r r2 else cmpM x y
end
theorem cI_neg (x y : Int) : cI x y < 0 ↔ x < y := by unfold cI; split <;> (try split) <;> omega
theorem cI_zero {x y : Int} (h : cI x y = 0) : x = y := by unfold cI at h; split at h <;> (try split at h) <;> omega
theorem cI_anti (x y : Int) : cI y x = - cI x y := by unfold cI; split <;> (try split) <;> (try split) <;> (try split) <;> omega
theorem u8_lt (a b : UInt8) : a < b ↔ a.toNat < b.toNat := UInt8.lt_iff_toNat_lt
theorem bl_irr : ∀ s, Op.bytesLess s s = false
  | [] => rfl
  | a :: x => by
    rw [Op.bytesLess, bl_irr x]
    have : ¬ a < a := by rw [u8_lt]; omega
    simp [this]
theorem bl_cons (a b : UInt8) (x y : List UInt8) : Op.bytesLess (a :: x) (b :: y) = true ↔ a.toNat < b.toNat ∨ (a.toNat = b.toNat ∧ Op.bytesLess x y = true) := by
  rw [Op.bytesLess, Bool.or_eq_true, Bool.and_eq_true, decide_eq_true_eq, u8_lt, beq_iff_eq, ← UInt8.toNat_inj]
theorem bl_tri : ∀ s t, ¬ Op.bytesLess s t = true → ¬ Op.bytesLess t s = true → s = t
  | [], [], _, _ => rfl
  | [], _ :: _, h, _ => absurd rfl h
  | _ :: _, [], _, h => absurd rfl h
  | a :: x, b :: y, h1, h2 => by
    rw [bl_cons] at h1 h2
    have e : a.toNat = b.toNat := by omega
    rw [UInt8.toNat_inj.1 e, bl_tri x y (fun h => h1 (.inr ⟨e, h⟩)) (fun h => h2 (.inr ⟨e.symm, h⟩))]
theorem bl_trans : ∀ s t u, Op.bytesLess s t = true → Op.bytesLess t u = true → Op.bytesLess s u = true
  | _, _, [], _, h => by simp [Op.bytesLess] at h
  | [], _, _ :: _, _, _ => rfl
  | _ :: _, [], _, h, _ => by simp [Op.bytesLess] at h
  | a :: x, b :: y, c :: z, h1, h2 => by
    rw [bl_cons] at h1 h2 ⊢
    rcases h1 with h1 | ⟨h1, h1'⟩
    · rcases h2 with h2 | ⟨h2, h2'⟩
      · exact .inl (by omega)
      · exact .inl (by omega)
    · rcases h2 with h2 | ⟨h2, h2'⟩
      · exact .inl (by omega)
      · exact .inr ⟨by omega, bl_trans x y z h1' h2'⟩
theorem cB_neg (s t : List UInt8) : cB s t < 0 ↔ Op.bytesLess s t = true := by
  unfold cB
  by_cases h : Op.bytesLess s t = true
  · rw [if_pos h]; simp [h]
  · rw [if_neg h]
    split <;> simp [h]
theorem cB_zero {s t : List UInt8} (h : cB s t = 0) : s = t := by
  unfold cB at h
  by_cases h1 : Op.bytesLess s t = true
  · rw [if_pos h1] at h; omega
  · rw [if_neg h1] at h
    by_cases h2 : Op.bytesLess t s = true
    · rw [if_pos h2] at h; omega
    · exact bl_tri s t h1 h2
theorem cB_anti (s t : List UInt8) : cB t s = - cB s t := by
  unfold cB
  by_cases h1 : Op.bytesLess s t = true
  · by_cases h2 : Op.bytesLess t s = true
    · have := bl_trans s t s h1 h2
      rw [bl_irr] at this
      cases this
    · rw [if_neg h2, if_pos h1, if_pos h1]; rfl
  · by_cases h2 : Op.bytesLess t s = true
    · rw [if_pos h2, if_neg h1, if_pos h2]
    · rw [if_neg h2, if_neg h1, if_neg h1, if_neg h2]; rfl
theorem str_ext {s t : ByteArray} (h : s.toList = t.toList) : s = t := by
  rw [Go.Lib.toList_data, Go.Lib.toList_data] at h
  exact ByteArray.ext (Array.toList_inj.1 h)
theorem cmpL_anti : ∀ (l : List S26), (∀ x ∈ l, ∀ y, cmpM y x = - cmpM x y) → ∀ m, cmpL m l = - cmpL l m
  | [], _, [] => by rw [cmpL]; rfl
  | [], _, _ :: _ => by rw [cmpL, cmpL]; rfl
  | _ :: _, _, [] => by rw [cmpL, cmpL]; rfl
  | x :: r, h, y :: m => by
    rw [cmpL, cmpL]
    have h1 := h x List.mem_cons_self y
    have h2 := cmpL_anti r (fun z hz => h z (List.mem_cons_of_mem _ hz)) m
    by_cases h0 : cmpM x y = 0
    · rw [if_pos h0, if_pos (by omega), h2]
    · rw [if_neg h0, if_neg (by omega), h1]
theorem cmp_anti : ∀ x y, cmpM y x = - cmpM x y := by
  refine indI (fun a b s l ih y => ?_)
  obtain ⟨a2, b2, s2, m⟩ := y
  rw [cmpM, cmpM]
  simp only
  by_cases h : a = a2
  · subst h
    rw [if_pos rfl, if_pos rfl]
    by_cases c1 : a = 1 ∨ a = 3
    · rw [if_pos c1, if_pos c1]; exact cI_anti _ _
    rw [if_neg c1, if_neg c1]
    by_cases c2 : a = 2
    · rw [if_pos c2, if_pos c2]; exact cB_anti _ _
    rw [if_neg c2, if_neg c2]
    have hL := cmpL_anti l ih m
    by_cases c4 : a = 4
    · rw [if_pos c4, if_pos c4]
      by_cases hl : l.length = m.length
      · rw [if_pos hl, if_pos hl.symm]; exact hL
      · rw [if_neg hl, if_neg (fun e => hl e.symm)]; exact cI_anti _ _
    rw [if_neg c4, if_neg c4]
    by_cases c5 : a = 5
    · rw [if_pos c5, if_pos c5]; exact hL
    · rw [if_neg c5, if_neg c5]; rfl
  · rw [if_neg h, if_neg (fun e => h e.symm)]; exact cI_anti _ _
theorem cmpL_zero : ∀ (l : List S26), (∀ x ∈ l, ∀ n, goodM x n = true → ∀ y m, goodM y m = true → cmpM x y = 0 → x = y) → ∀ (m : List S26) (n n2 : Nat), (∀ x ∈ l, goodM x n = true) → (∀ y ∈ m, goodM y n2 = true) → cmpL l m = 0 → l = m
  | [], _, [], _, _, _, _, _ => rfl
  | [], _, _ :: _, _, _, _, _, h => by rw [cmpL] at h; simp at h
  | _ :: _, _, [], _, _, _, _, h => by rw [cmpL] at h; simp at h
  | x :: r, hx, y :: m, n, n2, h1, h2, h => by
    rw [cmpL] at h
    by_cases h0 : cmpM x y = 0
    · rw [if_pos h0] at h
      rw [hx x List.mem_cons_self n (h1 x List.mem_cons_self) y n2 (h2 y List.mem_cons_self) h0, cmpL_zero r (fun z hz => hx z (List.mem_cons_of_mem _ hz)) m n n2 (fun z hz => h1 z (List.mem_cons_of_mem _ hz)) (fun z hz => h2 z (List.mem_cons_of_mem _ hz)) h]
    · rw [if_neg h0] at h
      exact absurd h h0
theorem cmp_zero : ∀ x n, goodM x n = true → ∀ y m, goodM y m = true → cmpM x y = 0 → x = y := by
  refine indI (fun a b s l ih n hg y m hy h => ?_)
  obtain ⟨a2, b2, s2, l2⟩ := y
  obtain ⟨n1, rfl, hs, hl⟩ := good_mk hg
  obtain ⟨m1, rfl, hs2, hl2⟩ := good_mk hy
  rw [cmpM] at h
  simp only at h
  have ha : a = a2 := by
    by_cases e : a = a2
    · exact e
    · rw [if_neg e] at h; exact cI_zero h
  subst ha
  rw [if_pos rfl] at h
  have hL := cmpL_zero l ih l2 n1 m1 (goodL_mem l n1 hl) (goodL_mem l2 m1 hl2)
  rcases shape_cases hs with ⟨rfl, _, _, rfl, rfl⟩ | ⟨rfl, rfl, _, rfl⟩ | ⟨rfl, _, _, rfl, rfl⟩ | ⟨h45, rfl, rfl, _⟩
  · rcases shape_cases hs2 with ⟨_, _, _, rfl, rfl⟩ | ⟨q, _⟩ | ⟨q, _⟩ | ⟨q, _⟩
    · rw [if_pos (by decide)] at h; rw [cI_zero h]
    · omega
    · omega
    · omega
  · rcases shape_cases hs2 with ⟨q, _⟩ | ⟨_, rfl, _, rfl⟩ | ⟨q, _⟩ | ⟨q, _⟩
    · omega
    · rw [if_neg (by decide), if_pos rfl] at h; rw [str_ext (cB_zero h)]
    · omega
    · omega
  · rcases shape_cases hs2 with ⟨q, _⟩ | ⟨q, _⟩ | ⟨_, _, _, rfl, rfl⟩ | ⟨q, _⟩
    · omega
    · omega
    · rw [if_pos (by decide)] at h; rw [cI_zero h]
    · omega
  · rcases shape_cases hs2 with ⟨q, _⟩ | ⟨q, _⟩ | ⟨q, _⟩ | ⟨_, rfl, rfl, _⟩
    · omega
    · omega
    · omega
    · rw [if_neg (by omega), if_neg (by omega)] at h
      rcases h45 with rfl | rfl
      · rw [if_pos rfl] at h
        by_cases hn : l.length = l2.length
        · rw [if_pos hn] at h; rw [hL h]
        · rw [if_neg hn] at h
          have := cI_zero h
          omega
      · rw [if_neg (by decide), if_pos rfl] at h; rw [hL h]
mutual
theorem cmp_refl : ∀ x, cmpM x x = 0
  | ⟨a, b, s, l⟩ => by
    have h1 : ∀ z, cI z z = 0 := fun z => by unfold cI; rw [if_neg (by omega), if_neg (by omega)]
    have h2 : cB s.toList s.toList = 0 := by unfold cB; rw [bl_irr]; rfl
    rw [cmpM, if_pos rfl, if_pos rfl, h1, h2, cmpL_refl l]
    split
    · rfl
    · split
      · rfl
      · split
        · rfl
        · split <;> rfl
theorem cmpL_refl : ∀ l, cmpL l l = 0
  | [] => by rw [cmpL]; rfl
  | x :: r => by rw [cmpL, cmp_refl x, cmpL_refl r]; rfl
end
theorem evT {α : Type} {c : Prop} [Decidable c] {A B : Nat → Option α} {r s : α} (h : c) (e : Ev A r) : Ev (fun k => if c then A k else B k) (if c then r else s) := ev_cast (if_pos h).symm (ev_pos h e)
theorem evF {α : Type} {c : Prop} [Decidable c] {A B : Nat → Option α} {r s : α} (h : ¬ c) (e : Ev B s) : Ev (fun k => if c then A k else B k) (if c then r else s) := ev_cast (if_neg h).symm (ev_neg h e)
abbrev OT := Int × Int × ByteArray × List S26 × Int
def zeroT (c : Int) : OT := (0, 0, ⟨#[]⟩, [], c)
def numT (n : Int) : OT := (1, n, ⟨#[]⟩, [], 0)
def boolT (b : Bool) : OT := if b = true then (2, 0, ⟨#[116, 114, 117, 101]⟩, [], 0) else (2, 0, ⟨#[102, 97, 108, 115, 101]⟩, [], 0)
abbrev boolS (b : Bool) : OT := boolT b
def rngT (n : Int) : OT := if -1000000000000 ≤ n ∧ n ≤ 1000000000000 then numT n else zeroT 3
def arithM (op : List UInt8) (a b : Int) : OT := if op = [43] then rngT (a + b) else if op = [45] then rngT (a - b) else rngT (a * b)
def operG (op : List UInt8) (x y : S26) : OT := if op = [61, 61] then boolT (sameM x y) else if op = [60] then boolT (decide (cmpM x y < 0)) else if x.f0 = 1 ∧ y.f0 = 1 then arithM op x.f1 y.f1 else zeroT 3
def operM (op : List UInt8) (x y : S26) : OT := if opL op = true then if termOkM x = true then if termOkM y = true then operG op x y else zeroT 1 else zeroT 1 else zeroT 1
theorem rng_and (n : Int) : (decide (-1000000000000 ≤ n) && decide (n ≤ 1000000000000)) = decide (-1000000000000 ≤ n ∧ n ≤ 1000000000000) := (dec_and _ _).symm
theorem rngT_ev (n : Int) : Ev (fun _ => if (decide (-1000000000000 ≤ n) && decide (n ≤ 1000000000000)) = true then some (numT n) else some (zeroT 3)) (rngT n) := by
  unfold rngT
  rw [rng_and]
  by_cases h : -1000000000000 ≤ n ∧ n ≤ 1000000000000
  · exact ev_cast (if_pos h).symm (ev_pos (decide_eq_true h) (Ev.now _))
  · exact ev_cast (if_neg h).symm (ev_neg (by rw [decide_eq_false h]; decide) (Ev.now _))
theorem abs_mul_lt (a b : Int) (ha : -1000000000000 ≤ a ∧ a ≤ 1000000000000) (hb : -1000000000000 ≤ b ∧ b ≤ 1000000000000) (h0 : b ≠ 0) (A B : Int) (hA : A = (a.natAbs : Int)) (hB : B = (b.natAbs : Int)) :
    A > 1000000000000 / B ↔ ¬ (-1000000000000 ≤ a * b ∧ a * b ≤ 1000000000000) := by
  have hp : 0 < B := by omega
  have e : (((a * b).natAbs : Nat) : Int) = A * B := by rw [Int.natAbs_mul, hA, hB]; push_cast; rfl
  have h1 : A ≤ 1000000000000 / B ↔ A * B ≤ 1000000000000 := Int.le_ediv_iff_mul_le hp
  constructor
  · intro h hc
    have : A * B ≤ 1000000000000 := by rw [← e]; omega
    have := h1.2 this
    omega
  · intro h
    by_cases hc : A ≤ 1000000000000 / B
    · have := h1.1 hc
      rw [← e] at this
      exact absurd (by omega) h
    · omega
theorem good_num {x : S26} (h : termOkM x = true) (h1 : x.f0 = 1) : (-1000000000000 ≤ x.f1 ∧ x.f1 ≤ 1000000000000) ∧ noText x.f2 = true ∧ x.f3 = [] := by
  obtain ⟨a, b, s, l⟩ := x
  dsimp only at h1
  unfold termOkM at h
  rw [Bool.and_eq_true, goodM, Bool.and_eq_true] at h
  have hs := h.1.1
  unfold shapeM at hs
  rw [if_pos h1, Bool.and_eq_true, Bool.and_eq_true, Bool.and_eq_true, decide_eq_true_iff, decide_eq_true_iff, beq_iff_eq] at hs
  refine ⟨hs.1, hs.2.1, ?_⟩
  have := hs.2.2
  dsimp only
  exact List.eq_nil_of_length_eq_zero (by omega)
theorem good_of {x : S26} (h : termOkM x = true) : goodM x 8 = true := by
  unfold termOkM at h
  rw [Bool.and_eq_true] at h
  exact h.1
def Cur (b : List Int) (i : Int) : Prop := 0 ≤ i ∧ i ≤ b.length ∧ (b.length : Int) ≤ 1048576
theorem and255 (x : Int) : 0 ≤ Go.bits .and .i64 x 255 ∧ Go.bits .and .i64 x 255 ≤ 255 := by
  have h : Go.bits .and .i64 x 255 = IntKind.i64.wrap (((BitVec.ofInt 64 x) &&& (BitVec.ofInt 64 255)).toNat : Int) := rfl
  have h2 : ((BitVec.ofInt 64 x) &&& (BitVec.ofInt 64 255)).toNat ≤ 255 := by
    rw [BitVec.toNat_and]
    exact Nat.and_le_right
  rw [h, hk63 _ (by omega) (by omega)]
  omega
theorem spec_l1New_l (l : List Int) (hl : (l.length : Int) ≤ 1048576) (d : Nat) : ∀ (i : Nat) (h : Int), i + d = l.length → ∃ h2, Ev (fun k => spec_l1New.l0 k l h i) (l, 0, h2) := by
  induction d with
  | zero =>
    intro i h hi
    refine ⟨h, Ev.step (f := fun _ => some (l, 0, h)) (fun k => ?_) (Ev.now _)⟩
    simp only [spec_l1New.l0]; rw [if_neg (by omega)]
  | succ d ih =>
    intro i h hi
    by_cases h4 : (i : Int) < 4000
    · obtain ⟨h2, e⟩ := ih (i + 1) (Go.bits .and .i64 (wrap64 ((wrap64 ((wrap64 (h * 137)) + (wrap64 (rd l i)))) + 11)) 1073741823) (by omega)
      refine ⟨h2, Ev.step (fun k => ?_) e⟩
      simp only [spec_l1New.l0]; rw [if_pos (by omega), if_pos h4, if_pos (by omega), w64 ((i : Int) + 1) (by omega) (by omega)]
      rfl
    · refine ⟨h, Ev.step (f := fun _ => some (l, 0, h)) (fun k => ?_) (Ev.now _)⟩
      simp only [spec_l1New.l0]; rw [if_pos (by omega), if_neg h4]
theorem spec_l1New_ev (l : List Int) (hl : (l.length : Int) ≤ 1048576) : ∃ h, Ev (fun k => spec_l1New.f k l) (l, 0, h) := spec_l1New_l l hl l.length 0 _ (by omega)
theorem spec_l1Byte_eq (b : List Int) (i h : Int) (hc : Cur b i) : ∃ v i2 h2, spec_l1Byte.f b i h = some (v, i2, h2) ∧ 0 ≤ v ∧ v ≤ 255 ∧ Cur b i2 := by
  unfold spec_l1Byte.f
  obtain ⟨h0, h1, h2⟩ := hc
  by_cases hi : i < (b.length : Int)
  · rw [if_pos hi, if_pos h0, w64 (i + 1) (by omega) (by omega)]
    exact ⟨_, _, _, rfl, (and255 _).1, (and255 _).2, by omega, by omega, h2⟩
  · rw [if_neg hi]
    exact ⟨_, _, _, rfl, (and255 _).1, (and255 _).2, h0, h1, h2⟩
theorem spec_l1Below_eq (b : List Int) (i h n : Int) (hc : Cur b i) : ∃ v i2 h2, spec_l1Below.f b i h n = some (v, i2, h2) ∧ 0 ≤ v ∧ (0 < n → v < n) ∧ (n ≤ 0 → v = 0) ∧ Cur b i2 := by
  unfold spec_l1Below.f
  by_cases h0 : n ≤ 0
  · rw [if_pos h0]
    exact ⟨0, i, h, rfl, by omega, by omega, fun _ => rfl, hc⟩
  rw [if_neg h0]
  by_cases h1 : n ≤ 256
  · rw [if_pos h1]
    obtain ⟨v, i2, h2, e, v0, v1, c2⟩ := spec_l1Byte_eq b i h hc
    rw [e]
    simp only [Option.bind_some]
    rw [if_neg (by omega)]
    refine ⟨_, _, _, rfl, ?_, fun _ => ?_, by omega, c2⟩
    · rw [Int.tmod_eq_emod_of_nonneg v0]; exact Int.emod_nonneg _ (by omega)
    · rw [Int.tmod_eq_emod_of_nonneg v0]; exact Int.emod_lt_of_pos _ (by omega)
  · rw [if_neg h1]
    obtain ⟨x, i2, h2, e, x0, x1, c2⟩ := spec_l1Byte_eq b i h hc
    rw [e]
    simp only [Option.bind_some]
    obtain ⟨y, i3, h3, e3, y0, y1, c3⟩ := spec_l1Byte_eq b i2 h2 c2
    rw [e3]
    simp only [Option.bind_some]
    obtain ⟨z, i4, h4, e4, z0, z1, c4⟩ := spec_l1Byte_eq b i3 h3 c3
    rw [e4]
    simp only [Option.bind_some]
    rw [if_neg (by omega), w64 (x * 65536) (by omega) (by omega), w64 (y * 256) (by omega) (by omega), w64 (x * 65536 + y * 256) (by omega) (by omega), w64 (x * 65536 + y * 256 + z) (by omega) (by omega)]
    refine ⟨_, _, _, rfl, ?_, fun _ => ?_, by omega, c4⟩
    · rw [Int.tmod_eq_emod_of_nonneg (by omega)]; exact Int.emod_nonneg _ (by omega)
    · rw [Int.tmod_eq_emod_of_nonneg (by omega)]; exact Int.emod_lt_of_pos _ (by omega)
theorem spec_l1Once_eq (b : List Int) (i h n : Int) (hc : Cur b i) : ∃ v i2 h2, spec_l1Once.f b i h n = some (v, i2, h2) ∧ Cur b i2 := by
  unfold spec_l1Once.f
  obtain ⟨v, i2, h2, e, _, _, _, c2⟩ := spec_l1Below_eq b i h n hc
  rw [e]
  exact ⟨_, _, _, rfl, c2⟩
theorem spec_l1Int_eq (b : List Int) (i h : Int) (l : List Int) (hl : 0 < l.length) (hc : Cur b i) : ∃ v i2 h2, spec_l1Int.f b i h l = some (v, i2, h2) ∧ v ∈ l ∧ Cur b i2 := by
  unfold spec_l1Int.f
  obtain ⟨v, i2, h2, e, v0, v1, _, c2⟩ := spec_l1Below_eq b i h l.length hc
  rw [e]
  simp only [Option.bind_some]
  have v2 := v1 (by omega)
  rw [if_pos v0, if_pos v2]
  refine ⟨_, _, _, rfl, ?_, c2⟩
  unfold rd
  have hv : v.toNat < l.length := by omega
  simp [List.getD_eq_getElem?_getD, List.getElem?_eq_getElem hv]
theorem spec_l1Str_eq (b : List Int) (i h : Int) (l : List ByteArray) (hl : 0 < l.length) (hc : Cur b i) : ∃ v i2 h2, spec_l1Str.f b i h l = some (v, i2, h2) ∧ v ∈ l ∧ Cur b i2 := by
  unfold spec_l1Str.f
  obtain ⟨v, i2, h2, e, v0, v1, _, c2⟩ := spec_l1Below_eq b i h l.length hc
  rw [e]
  simp only [Option.bind_some]
  have v2 := v1 (by omega)
  rw [if_pos v0, if_pos v2]
  refine ⟨_, _, _, rfl, ?_, c2⟩
  unfold rdOf
  have hv : v.toNat < l.length := by omega
  simp [List.getD_eq_getElem?_getD, List.getElem?_eq_getElem hv]
theorem budIL_app : ∀ (l m : List S26), budIL (l ++ m) = budIL l + budIL m
  | [], m => by rw [List.nil_append, budIL]; omega
  | x :: r, m => by rw [List.cons_append, budIL, budIL, budIL_app r m]; omega
theorem budIL_one (x : S26) : budIL [x] = 1 + budI x := by rw [budIL, budIL]; rfl
theorem budI_eta (x : S26) : budI x = x.f2.size + budIL x.f3 := by cases x; rw [budI]
theorem take_rdI (l : List S26) (i : Nat) (h : i < l.length) : l.take i ++ [rd_T26 l i] = l.take (i + 1) := by
  rw [List.take_add_one]
  unfold rd_T26
  simp [List.getElem?_eq_getElem h]
theorem spec_l2Draw_l (b : List Int) (d : Nat) (hd : d ≤ 3) (B : Nat)
    (ih : 0 < d → ∀ i h, Cur b i → ∃ (x : S26) (i2 h2 : Int), Ev (fun k => spec_l2Draw.f k b i h ((d - 1 : Nat) : Int)) (x.f0, x.f1, x.f2, x.f3, i2, h2) ∧ budI x ≤ B ∧ Cur b i2) (t0 t1 : Int) (s : ByteArray) :
    ∀ (n : Nat) (l : List S26) (i h : Int), n ≤ 3 → budIL l + n * (B + 1) ≤ 60000 → Cur b i → ∃ l2 i2 h2, Ev (fun k => spec_l2Draw.l0 k d n b i h t0 t1 s l) (t0, t1, s, l2, i2, h2) ∧ budIL l2 ≤ budIL l + n * (B + 1) ∧ Cur b i2 := by
  intro n
  induction n with
  | zero =>
    intro l i h hn hl hc
    refine ⟨l, i, h, Ev.step (f := fun _ => some (t0, t1, s, l, i, h)) (fun k => ?_) (Ev.now _), by omega, hc⟩
    simp only [spec_l2Draw.l0]; rw [if_neg (by omega)]
  | succ n ihn =>
    intro l i h hn hl hc
    rw [Nat.succ_mul] at hl
    by_cases h0 : (d : Int) > 0
    · obtain ⟨x, i2, h2, e, hx, c2⟩ := ih (by omega) i h hc
      have hlen := budIL_len l
      have ha := budIL_app l [x]
      rw [budIL_one] at ha
      obtain ⟨l3, i3, h3, e3, hl3, c3⟩ := ihn (l ++ [x]) i2 h2 (by omega) (by omega) c2
      refine ⟨l3, i3, h3, Ev.step (f := fun k => (spec_l2Draw.f k b i h ((d - 1 : Nat) : Int)).bind fun bt => (if l.length < 2513169434916 then (spec_l2Draw.l0 k d (wrap64 (((n + 1 : Nat) : Int) - 1)) b bt.2.2.2.2.1 bt.2.2.2.2.2 t0 t1 s (l ++ [(⟨bt.1, bt.2.1, bt.2.2.1, bt.2.2.2.1⟩ : S26)])) else none)) (fun k => ?_) (Ev.bind e (ev_pos (by omega) ?_)), ?_, c3⟩
      · simp only [spec_l2Draw.l0]; rw [if_pos (by omega), if_pos h0, w64 ((d : Int) - 1) (by omega) (by omega), show (d : Int) - 1 = ((d - 1 : Nat) : Int) from by omega]
      · rw [w64 _ (by omega) (by omega), show ((n + 1 : Nat) : Int) - 1 = (n : Int) from by omega]
        simp only [etaI]
        exact e3
      · rw [Nat.succ_mul]; omega
    · refine ⟨l, i, h, Ev.step (f := fun _ => some (t0, t1, s, l, i, h)) (fun k => ?_) (Ev.now _), by omega, hc⟩
      simp only [spec_l2Draw.l0]; rw [if_pos (by omega), if_neg h0]
def drawB : Nat → Nat
  | 0 => 4
  | d + 1 => 3 * drawB d + 4
theorem drawB_hi (d : Nat) (h : d ≤ 3) : drawB d ≤ 160 := by
  have : d = 0 ∨ d = 1 ∨ d = 2 ∨ d = 3 := by omega
  rcases this with rfl | rfl | rfl | rfl <;> decide
theorem spec_l2Draw_j1 (b : List Int) (d : Nat) (hd : d ≤ 3) (B : Nat) (hB : B ≤ 1000)
    (ih : 0 < d → ∀ i h, Cur b i → ∃ (x : S26) (i2 h2 : Int), Ev (fun k => spec_l2Draw.f k b i h ((d - 1 : Nat) : Int)) (x.f0, x.f1, x.f2, x.f3, i2, h2) ∧ budI x ≤ B ∧ Cur b i2)
    (v : Int) (q : Bool) (i h : Int) (hc : Cur b i) : ∃ (x : S26) (i2 h2 : Int), Ev (fun k => spec_l2Draw.j1 k d v q b i h) (x.f0, x.f1, x.f2, x.f3, i2, h2) ∧ budI x ≤ 3 * B + 4 ∧ Cur b i2 := by
  cases q with
  | true =>
    obtain ⟨s, i2, h2, e, hs, c2⟩ := spec_l1Str_eq b i h [(⟨#[111, 107]⟩ : ByteArray), (⟨#[115, 116, 111, 112]⟩ : ByteArray), (⟨#[97]⟩ : ByteArray), (⟨#[116, 114, 117, 101]⟩ : ByteArray), (⟨#[97, 100, 100]⟩ : ByteArray)] (by decide) hc
    refine ⟨⟨2, 0, s, []⟩, i2, h2, Ev.step (f := fun _ => some (2, 0, s, [], i2, h2)) (fun k => ?_) (Ev.now _), ?_, c2⟩
    · simp only [spec_l2Draw.j1]; rw [if_pos trivial, e]; rfl
    · rw [budI, budIL]
      simp only [List.mem_cons, List.not_mem_nil, or_false] at hs
      rcases hs with rfl | rfl | rfl | rfl | rfl <;> (show (_ : Nat) + 0 ≤ _; exact Nat.le_trans (by decide) (Nat.le_add_left 4 _))
  | false =>
    by_cases h5 : v = 5
    · obtain ⟨n, i2, h2, e, _, _, _, c2⟩ := spec_l1Below_eq b i h 5 hc
      refine ⟨⟨3, n, ⟨#[]⟩, []⟩, i2, h2, Ev.step (f := fun _ => some (3, n, ⟨#[]⟩, [], i2, h2)) (fun k => ?_) (Ev.now _), ?_, c2⟩
      · simp only [spec_l2Draw.j1]; rw [if_neg (by decide), if_pos h5, e]; rfl
      · rw [budI, budIL]; exact Nat.zero_le _
    · obtain ⟨t, i2, h2, e, _, c2⟩ := spec_l1Int_eq b i h [4, 5] (by decide) hc
      obtain ⟨n, i3, h3, e3, n0, n1, _, c3⟩ := spec_l1Below_eq b i2 h2 4 c2
      have n2 := n1 (by decide)
      have hl := spec_l2Draw_l b d hd B ih t 0 ⟨#[]⟩ n.toNat [] i3 h3 (by omega) (by
        rw [budIL]
        have : n.toNat * (B + 1) ≤ 3 * (B + 1) := Nat.mul_le_mul_right _ (by omega)
        omega) c3
      obtain ⟨l2, i4, h4, e4, hl2, c4⟩ := hl
      rw [show ((n.toNat : Nat) : Int) = n from by omega] at e4
      refine ⟨⟨t, 0, ⟨#[]⟩, l2⟩, i4, h4, Ev.step (f := fun k => spec_l2Draw.l0 k d n b i3 h3 t 0 ⟨#[]⟩ []) (fun k => ?_) e4, ?_, c4⟩
      · simp only [spec_l2Draw.j1]; rw [if_neg (by decide), if_neg h5, e]
        simp only [Option.bind_some]
        rw [e3]; rfl
      · rw [budI]
        rw [budIL] at hl2
        have : n.toNat * (B + 1) ≤ 3 * (B + 1) := Nat.mul_le_mul_right _ (by omega)
        show 0 + budIL l2 ≤ _
        omega
theorem spec_l2Draw_j0 (b : List Int) (d : Nat) (hd : d ≤ 3) (B : Nat) (hB : B ≤ 1000)
    (ih : 0 < d → ∀ i h, Cur b i → ∃ (x : S26) (i2 h2 : Int), Ev (fun k => spec_l2Draw.f k b i h ((d - 1 : Nat) : Int)) (x.f0, x.f1, x.f2, x.f3, i2, h2) ∧ budI x ≤ B ∧ Cur b i2)
    (v : Int) (q : Bool) (i h : Int) (hc : Cur b i) : ∃ (x : S26) (i2 h2 : Int), Ev (fun k => spec_l2Draw.j0 k d v q b i h) (x.f0, x.f1, x.f2, x.f3, i2, h2) ∧ budI x ≤ 3 * B + 4 ∧ Cur b i2 := by
  cases q with
  | true =>
    obtain ⟨w, i2, h2, e, _, _, _, c2⟩ := spec_l1Below_eq b i h 1000 hc
    obtain ⟨n, i3, h3, e3, _, c3⟩ := spec_l1Int_eq b i2 h2 [0, 1, 2, (-1), 7, 1000000000000, (-1000000000000), w] (by simp) c2
    refine ⟨⟨1, n, ⟨#[]⟩, []⟩, i3, h3, Ev.step (f := fun _ => some (1, n, ⟨#[]⟩, [], i3, h3)) (fun k => ?_) (Ev.now _), ?_, c3⟩
    · simp only [spec_l2Draw.j0]; rw [if_pos trivial, e]
      simp only [Option.bind_some]
      rw [e3]; rfl
    · rw [budI, budIL]; exact Nat.zero_le _
  | false =>
    obtain ⟨x, i2, h2, e, hx, c2⟩ := spec_l2Draw_j1 b d hd B hB ih v (if v = 3 then v == 3 else v == 4) i h hc
    refine ⟨x, i2, h2, Ev.step (fun k => ?_) e, hx, c2⟩
    simp only [spec_l2Draw.j0]; rw [if_neg (by decide)]
    split <;> rfl
theorem spec_l2Draw_step (b : List Int) (d : Nat) (hd : d ≤ 3) (B : Nat) (hB : B ≤ 1000)
    (ih : 0 < d → ∀ i h, Cur b i → ∃ (x : S26) (i2 h2 : Int), Ev (fun k => spec_l2Draw.f k b i h ((d - 1 : Nat) : Int)) (x.f0, x.f1, x.f2, x.f3, i2, h2) ∧ budI x ≤ B ∧ Cur b i2)
    (i h : Int) (hc : Cur b i) : ∃ (x : S26) (i2 h2 : Int), Ev (fun k => spec_l2Draw.f k b i h d) (x.f0, x.f1, x.f2, x.f3, i2, h2) ∧ budI x ≤ 3 * B + 4 ∧ Cur b i2 := by
  obtain ⟨v, i2, h2, e, _, _, _, c2⟩ := spec_l1Below_eq b i h 8 hc
  obtain ⟨x, i3, h3, e3, hx, c3⟩ := spec_l2Draw_j0 b d hd B hB ih v (if v = 0 then v == 0 else if v = 1 then v == 1 else v == 2) i2 h2 c2
  refine ⟨x, i3, h3, Ev.step (fun k => ?_) e3, hx, c3⟩
  simp only [spec_l2Draw.f]; rw [e]
  simp only [Option.bind_some]
  split
  · rfl
  · split <;> rfl
theorem spec_l2Draw_all (b : List Int) (d : Nat) : d ≤ 3 → ∀ i h, Cur b i → ∃ (x : S26) (i2 h2 : Int), Ev (fun k => spec_l2Draw.f k b i h (d : Int)) (x.f0, x.f1, x.f2, x.f3, i2, h2) ∧ budI x ≤ drawB d ∧ Cur b i2 := by
  induction d with
  | zero =>
    intro hd i h hc
    exact spec_l2Draw_step b 0 hd 0 (by omega) (fun h0 => absurd h0 (by omega)) i h hc
  | succ d ih =>
    intro hd i h hc
    have := drawB_hi d (by omega)
    exact spec_l2Draw_step b (d + 1) hd (drawB d) (by omega) (fun _ i h hc => ih (by omega) i h hc) i h hc
theorem spec_l2Copy_l (a b : Int) (s : ByteArray) (l : List S26) (hl : (budIL l : Int) ≤ 4194304)
    (h : ∀ y ∈ l, Ev (fun k => spec_l2Copy.f k y.f0 y.f1 y.f2 y.f3) (y.f0, y.f1, y.f2, y.f3)) (d : Nat) : ∀ (i : Nat), i + d = l.length → Ev (fun k => spec_l2Copy.l0 k i a b s l a b s (l.take i)) (a, b, s, l) := by
  have hlen := budIL_len l
  induction d with
  | zero =>
    intro i hi
    refine Ev.step (f := fun _ => some (a, b, s, l)) (fun k => ?_) (Ev.now _)
    simp only [spec_l2Copy.l0]; rw [if_neg (by omega), List.take_of_length_le (by omega)]
  | succ d ih =>
    intro i hi
    have hlt : i < l.length := by omega
    have e := h _ (rdI_mem l i hlt)
    have ht := take_rdI l i hlt
    generalize hy : rd_T26 l i = y at *
    refine Ev.step (f := fun k => (spec_l2Copy.f k y.f0 y.f1 y.f2 y.f3).bind fun bt => (if (l.take i).length < 2513169434916 then (spec_l2Copy.l0 k (wrap64 ((i : Int) + 1)) a b s l a b s (l.take i ++ [(⟨bt.1, bt.2.1, bt.2.2.1, bt.2.2.2⟩ : S26)])) else none)) (fun k => ?_) (Ev.bind e (ev_pos (by rw [List.length_take]; omega) ?_))
    · simp only [spec_l2Copy.l0]; rw [if_pos (by omega), if_pos (by omega), hy]
    · rw [w64 _ (by omega) (by omega)]
      refine ev_cast rfl ?_
      have := ih (i + 1) (by omega)
      rw [← ht] at this
      simp only [etaI]
      exact this
theorem spec_l2Copy_all : ∀ x, (budI x : Int) ≤ 4194304 → Ev (fun k => spec_l2Copy.f k x.f0 x.f1 x.f2 x.f3) (x.f0, x.f1, x.f2, x.f3) := by
  refine indI ?_
  intro a b s l ih hb
  rw [budI] at hb
  refine Ev.step (fun k => ?_) (spec_l2Copy_l a b s l (by omega) (fun y hy => ih y hy (by have := budI_mem l y hy; omega)) l.length 0 (by omega))
  simp only [spec_l2Copy.f]; rfl
theorem spec_l2Bend_l (b : List Int) (i h : Int) (d : Nat) : ∀ (j : Nat) (x : S26), j + d = 8 → ∃ y : S26, Ev (fun k => spec_l2Bend.l0 k j b i h x.f0 x.f1 x.f2 x.f3) (y.f0, y.f1, y.f2, y.f3, i, h) ∧ budI y ≤ budI x + d := by
  induction d with
  | zero =>
    intro j x hj
    refine ⟨x, Ev.step (f := fun _ => some (x.f0, x.f1, x.f2, x.f3, i, h)) (fun k => ?_) (Ev.now _), by omega⟩
    simp only [spec_l2Bend.l0]; rw [if_neg (by omega)]
  | succ d ih =>
    intro j x hj
    obtain ⟨y, e, hy⟩ := ih (j + 1) ⟨4, 0, ⟨#[]⟩, [x]⟩ (by omega)
    refine ⟨y, Ev.step (fun k => ?_) e, ?_⟩
    · simp only [spec_l2Bend.l0]; rw [if_pos (by omega), w64 _ (by omega) (by omega), etaI]; rfl
    · rw [budI, budIL_one] at hy
      have : (⟨#[]⟩ : ByteArray).size = 0 := rfl
      omega
theorem spec_l2Bend_ev (b : List Int) (i h : Int) (hc : Cur b i) (x : S26) (hx : budI x ≤ 4000) : ∃ (y : S26) (i2 h2 : Int), Ev (fun k => spec_l2Bend.f k b i h x.f0 x.f1 x.f2 x.f3) (y.f0, y.f1, y.f2, y.f3, i2, h2) ∧ budI y ≤ budI x + 30 ∧ Cur b i2 := by
  have hcp := spec_l2Copy_all x (by omega)
  have hb := budI_eta x
  obtain ⟨v, i2, h2, e, _, _, _, c2⟩ := spec_l1Below_eq b i h 6 hc
  unfold spec_l2Bend.f
  by_cases h0 : v = 0
  · obtain ⟨n, i3, h3, e3, _, _, _, c3⟩ := spec_l1Below_eq b i2 h2 7 c2
    exact ⟨⟨n, x.f1, x.f2, x.f3⟩, i3, h3, Ev.bind hcp (Ev.bind (ev_of e) (ev_pos h0 (Ev.bind (ev_of e3) (Ev.now _)))), by rw [budI]; omega, c3⟩
  by_cases h1 : v = 1
  · obtain ⟨n, i3, h3, e3, _, c3⟩ := spec_l1Int_eq b i2 h2 [(-1), 1000000000001, 1000001, 3] (by decide) c2
    exact ⟨⟨x.f0, n, x.f2, x.f3⟩, i3, h3, Ev.bind hcp (Ev.bind (ev_of e) (ev_neg h0 (ev_pos h1 (Ev.bind (ev_of e3) (Ev.now _))))), by rw [budI]; omega, c3⟩
  by_cases h2' : v = 2
  · obtain ⟨s, i3, h3, e3, hs, c3⟩ := spec_l1Str_eq b i2 h2 [(⟨#[]⟩ : ByteArray), (⟨#[65]⟩ : ByteArray), (⟨#[120]⟩ : ByteArray), (⟨#[116, 119, 101, 110, 116, 121, 111, 110, 101, 98, 121, 116, 101, 115, 116, 119, 101, 110, 116, 121, 111]⟩ : ByteArray)] (by decide) c2
    have hs2 : s.size ≤ 21 := by
      simp only [List.mem_cons, List.not_mem_nil, or_false] at hs
      rcases hs with rfl | rfl | rfl | rfl <;> decide
    exact ⟨⟨x.f0, x.f1, s, x.f3⟩, i3, h3, Ev.bind hcp (Ev.bind (ev_of e) (ev_neg h0 (ev_neg h1 (ev_pos h2' (Ev.bind (ev_of e3) (Ev.now _)))))), by rw [budI]; omega, c3⟩
  by_cases h3' : v = 3
  · have hlen := budIL_len x.f3
    refine ⟨⟨x.f0, x.f1, x.f2, x.f3 ++ [⟨1, 4, ⟨#[]⟩, []⟩]⟩, i2, h2, Ev.bind hcp (Ev.bind (ev_of e) (ev_neg h0 (ev_neg h1 (ev_neg h2' (ev_pos h3' (ev_pos ?_ (Ev.now _))))))), ?_, c2⟩
    · show x.f3.length < _; omega
    · rw [budI, budIL_app, budIL_one, budI, budIL]
      have : (⟨#[]⟩ : ByteArray).size = 0 := rfl
      omega
  by_cases h4' : v = 4
  · obtain ⟨y, ey, hy⟩ := spec_l2Bend_l b i2 h2 8 0 x (by omega)
    exact ⟨y, i2, h2, Ev.bind hcp (Ev.bind (ev_of e) (ev_neg h0 (ev_neg h1 (ev_neg h2' (ev_neg h3' (ev_pos h4' ey)))))), by omega, c2⟩
  · exact ⟨x, i2, h2, Ev.bind hcp (Ev.bind (ev_of e) (ev_neg h0 (ev_neg h1 (ev_neg h2' (ev_neg h3' (ev_neg h4' (Ev.now _))))))), by omega, c2⟩
theorem spec_l2Any_ev (b : List Int) (i h : Int) (hc : Cur b i) : ∃ (y : S26) (i2 h2 : Int), Ev (fun k => spec_l2Any.f k b i h) (y.f0, y.f1, y.f2, y.f3, i2, h2) ∧ budI y ≤ 200 ∧ Cur b i2 := by
  obtain ⟨x, i2, h2, e, hx, c2⟩ := spec_l2Draw_all b 3 (by omega) i h hc
  have hx2 := drawB_hi 3 (by omega)
  obtain ⟨v, i3, h3, e3, c3⟩ := spec_l1Once_eq b i2 h2 5 c2
  unfold spec_l2Any.f
  cases v with
  | true =>
    obtain ⟨y, i4, h4, e4, hy, c4⟩ := spec_l2Bend_ev b i3 h3 c3 x (by omega)
    exact ⟨y, i4, h4, Ev.bind e (Ev.bind (ev_of e3) (ev_pos rfl (Ev.bind e4 (Ev.now _)))), by omega, c4⟩
  | false =>
    exact ⟨x, i3, h3, Ev.bind e (Ev.bind (ev_of e3) (ev_neg (fun hf : false = true => Bool.noConfusion hf) (Ev.now _))), by omega, c3⟩
theorem spec_DrawOperate_ev (l : List Int) (hl : (l.length : Int) ≤ 1048576) : ∃ (op : ByteArray) (x y : S26), Ev (fun k => spec_DrawOperate.f k l) (op, x.f0, x.f1, x.f2, x.f3, y.f0, y.f1, y.f2, y.f3) ∧ budI x ≤ 200 ∧ budI y ≤ 200 := by
  obtain ⟨h, e0⟩ := spec_l1New_ev l hl
  obtain ⟨x, i2, h2, e1, hx, c2⟩ := spec_l2Any_ev l 0 h ⟨by omega, by omega, by omega⟩
  obtain ⟨y, i3, h3, e2, hy, c3⟩ := spec_l2Any_ev l i2 h2 c2
  obtain ⟨v, i4, h4, e3, c4⟩ := spec_l1Once_eq l i3 h3 3 c3
  unfold spec_DrawOperate.f
  by_cases hv : v = true
  · obtain ⟨op, i5, h5, e4, _, _⟩ := spec_l1Str_eq l i4 h4 [⟨#[43]⟩, ⟨#[45]⟩, ⟨#[42]⟩, ⟨#[61, 61]⟩, ⟨#[60]⟩, ⟨#[45, 62]⟩, ⟨#[]⟩] (by simp) c4
    refine ⟨op, x, y, Ev.bind e0 (Ev.bind e1 (Ev.bind e2 (Ev.bind (ev_of e3) (ev_pos hv ?_)))), hx, hy⟩
    exact Ev.bind (ev_of e4) (Ev.now _)
  · obtain ⟨a, i5, h5, e4, _, _, _, c5⟩ := spec_l1Below_eq l i4 h4 100 c4
    obtain ⟨b, i6, h6, e5, _, c6⟩ := spec_l1Int_eq l i5 h5 [0, 1, (-1), 1000000, (-1000001), 1000000000000, (-1000000000000), a] (by simp) c5
    obtain ⟨c, i7, h7, e6, _, _, _, c7⟩ := spec_l1Below_eq l i6 h6 100 c6
    obtain ⟨d, i8, h8, e7, _, c8⟩ := spec_l1Int_eq l i7 h7 [0, 1, (-1), 1000000, 1000001, 1000000000000, (-1000000000000), c] (by simp) c7
    obtain ⟨op, i9, h9, e8, _, _⟩ := spec_l1Str_eq l i8 h8 [⟨#[43]⟩, ⟨#[45]⟩, ⟨#[42]⟩, ⟨#[61, 61]⟩, ⟨#[60]⟩, ⟨#[45, 62]⟩, ⟨#[]⟩] (by simp) c8
    refine ⟨op, ⟨1, b, ⟨#[]⟩, []⟩, ⟨1, d, ⟨#[]⟩, []⟩, Ev.bind e0 (Ev.bind e1 (Ev.bind e2 (Ev.bind (ev_of e3) (ev_neg hv ?_)))), by rw [budI_mk, budIL]; decide, by rw [budI_mk, budIL]; decide⟩
    refine Ev.bind (ev_of e4) ?_
    refine Ev.bind (ev_of e5) ?_
    refine Ev.bind (ev_of e6) ?_
    refine Ev.bind (ev_of e7) ?_
    refine Ev.bind (ev_of e8) ?_
    exact Ev.now _
theorem cmpInt_eq (x y : Int) : cmp_Compare_int.f x y = some (cI x y) := by
  unfold cmp_Compare_int.f cmp_isNaN_int.f cI
  have h1 : (x != x) = false := by simp
  have h2 : (y != y) = false := by simp
  simp only [Option.bind_some, h1, h2]
  rw [if_neg (by decide), if_neg (by decide)]
  split
  · rfl
  · split <;> rfl
theorem cmpStr_eq (x y : ByteArray) : cmp_Compare_string.f x y = some (cB x.toList y.toList) := by
  unfold cmp_Compare_string.f cmp_isNaN_string.f cB
  have h1 : (x.toList != x.toList) = false := by simp
  have h2 : (y.toList != y.toList) = false := by simp
  simp only [Option.bind_some, h1, h2]
  rw [if_neg (by decide), if_neg (by decide)]
  split
  · rfl
  · split <;> rfl
theorem cmpF_loop (l m : List S26) (hl : (l.length : Int) ≤ 4194304) (h : ∀ x ∈ l, ∀ y ∈ m, Ev (fun k => impl_compareTerms.f k x.f0 x.f1 x.f2 x.f3 y.f0 y.f1 y.f2 y.f3) (cmpM x y)) (d : Nat) :
    ∀ (i : Nat), i + d = l.length → Ev (fun k => slices_CompareFunc_of_impl_compareTerms.l0 k l m l (l.length : Int) i) (cmpL (l.drop i) (m.drop i)) := by
  induction d with
  | zero =>
    intro i hi
    refine Ev.step (f := fun _ => if (l.length : Int) < (m.length : Int) then (some (-1)) else (some 0)) (fun k => ?_) ?_
    · simp only [slices_CompareFunc_of_impl_compareTerms.l0]; rw [if_neg (by omega)]
    · rw [List.drop_eq_nil_of_le (by omega), cmpL]
      by_cases hm : l.length < m.length
      · refine ev_pos (by omega) (ev_cast ?_ (Ev.now _))
        rw [List.drop_eq_getElem_cons (by omega)]; rfl
      · refine ev_neg (by omega) (ev_cast ?_ (Ev.now _))
        rw [List.drop_eq_nil_of_le (by omega)]; rfl
  | succ d ih =>
    intro i hi
    have hlt : i < l.length := by omega
    have hn := ih (i + 1) (by omega)
    by_cases hm : i < m.length
    · have e := h _ (rdI_mem l i hlt) _ (rdI_mem m i hm)
      rw [dropI l i hlt, dropI m i hm, cmpL]
      generalize hy : rd_T26 l i = y at *
      generalize hz : rd_T26 m i = z at *
      refine Ev.step (f := fun k => (impl_compareTerms.f k y.f0 y.f1 y.f2 y.f3 z.f0 z.f1 z.f2 z.f3).bind fun t => (if t = 0 then (slices_CompareFunc_of_impl_compareTerms.l0 k l m l (l.length : Int) (wrap64 ((i : Int) + 1))) else (some t))) (fun k => ?_) (Ev.bind e ?_)
      · simp only [slices_CompareFunc_of_impl_compareTerms.l0]
        rw [if_pos (by omega), if_pos (by omega), if_pos (by omega), if_neg (by omega), if_pos (by omega), hy, hz]
      · rw [w64 _ (by omega) (by omega)]
        by_cases h0 : cmpM y z = 0
        · rw [if_pos h0]; exact ev_pos h0 hn
        · rw [if_neg h0]; exact ev_neg h0 (Ev.now _)
    · refine Ev.step (f := fun _ => some 1) (fun k => ?_) (ev_cast ?_ (Ev.now _))
      · simp only [slices_CompareFunc_of_impl_compareTerms.l0]
        rw [if_pos (by omega), if_pos (by omega), if_pos (by omega), if_pos (by omega)]
      · rw [dropI l i hlt, List.drop_eq_nil_of_le (show m.length ≤ i by omega), cmpL]
theorem impl_cmp_all : ∀ x, (budI x : Int) ≤ 4194304 → ∀ y, Ev (fun k => impl_compareTerms.f k x.f0 x.f1 x.f2 x.f3 y.f0 y.f1 y.f2 y.f3) (cmpM x y) := by
  refine indI (fun a b s l ih hb y => ?_)
  obtain ⟨a2, b2, s2, m⟩ := y
  rw [budI_mk] at hb
  have hll := budIL_len l
  have hf : Ev (fun k => slices_CompareFunc_of_impl_compareTerms.f k l m) (cmpL l m) := by
    have e := cmpF_loop l m (by omega) (fun x hx y _ => ih x hx (by have := budI_mem l x hx; omega) y) l.length 0 (by omega)
    exact Ev.step (fun k => by simp only [slices_CompareFunc_of_impl_compareTerms.f]; rfl) e
  rw [cmpM]
  show Ev (fun k => impl_compareTerms.f k a b s l a2 b2 s2 m) _
  simp only
  by_cases h : a = a2
  · subst h
    rw [if_pos rfl]
    have key : ∀ q : Bool, (q = true ↔ (a = 1 ∨ a = 3)) → Ev (fun k => impl_compareTerms.j0 k a q a b s l a b2 s2 m) (if a = 1 ∨ a = 3 then cI b b2 else if a = 2 then cB s.toList s2.toList else if a = 4 then (if l.length = m.length then cmpL l m else cI l.length m.length) else if a = 5 then cmpL l m else 0) := by
      intro q hq
      by_cases c1 : a = 1 ∨ a = 3
      · rw [if_pos c1]
        refine Ev.step (f := fun k => (cmp_Compare_int.f b b2).bind fun t273 => (some t273)) (fun k => ?_) (Ev.bind (ev_of (cmpInt_eq _ _)) (Ev.now _))
        simp only [impl_compareTerms.j0]; rw [if_pos (hq.2 c1)]
      have hq2 : ¬ q = true := fun e => c1 (hq.1 e)
      rw [if_neg c1]
      by_cases c2 : a = 2
      · rw [if_pos c2]
        refine Ev.step (f := fun k => (cmp_Compare_string.f s s2).bind fun t274 => (some t274)) (fun k => ?_) (Ev.bind (ev_of (cmpStr_eq _ _)) (Ev.now _))
        simp only [impl_compareTerms.j0]; rw [if_neg hq2, if_pos c2]
      rw [if_neg c2]
      by_cases c4 : a = 4
      · rw [if_pos c4]
        refine Ev.step (f := fun k => (if (l.length : Int) = (m.length : Int) then ((slices_CompareFunc_of_impl_compareTerms.f k l m).bind fun t275 => (some t275)) else ((cmp_Compare_int.f (l.length : Int) (m.length : Int)).bind fun t276 => (some t276)))) (fun k => ?_) ?_
        · simp only [impl_compareTerms.j0]; rw [if_neg hq2, if_neg c2, if_pos c4]
        · by_cases hl : l.length = m.length
          · rw [if_pos hl]; exact ev_pos (by omega) (Ev.bind hf (Ev.now _))
          · rw [if_neg hl]; exact ev_neg (by omega) (Ev.bind (ev_of (cmpInt_eq _ _)) (Ev.now _))
      rw [if_neg c4]
      by_cases c5 : a = 5
      · rw [if_pos c5]
        refine Ev.step (f := fun k => ((slices_CompareFunc_of_impl_compareTerms.f k l m).bind fun t277 => (some t277))) (fun k => ?_) (Ev.bind hf (Ev.now _))
        simp only [impl_compareTerms.j0]; rw [if_neg hq2, if_neg c2, if_neg c4, if_pos c5]
      · rw [if_neg c5]
        refine Ev.step (f := fun _ => some 0) (fun k => ?_) (Ev.now _)
        simp only [impl_compareTerms.j0]; rw [if_neg hq2, if_neg c2, if_neg c4, if_neg c5]
    by_cases c1 : a = 1
    · refine Ev.step (f := fun k => impl_compareTerms.j0 k a (a == 1) a b s l a b2 s2 m) (fun k => ?_) (key _ (by rw [beq_iff_eq]; omega))
      simp only [impl_compareTerms.f]; rw [if_pos trivial, if_pos c1]
    · refine Ev.step (f := fun k => impl_compareTerms.j0 k a (a == 3) a b s l a b2 s2 m) (fun k => ?_) (key _ (by rw [beq_iff_eq]; omega))
      simp only [impl_compareTerms.f]; rw [if_pos trivial, if_neg c1]
  · rw [if_neg h]
    refine Ev.step (f := fun k => (cmp_Compare_int.f a a2).bind fun t272 => (some t272)) (fun k => ?_) (Ev.bind (ev_of (cmpInt_eq _ _)) (Ev.now _))
    simp only [impl_compareTerms.f]; rw [if_neg h]
theorem impl_LessTerm_ev (x y : S26) (hb : (budI x : Int) ≤ 4194304) : Ev (fun k => impl_LessTerm.f k x.f0 x.f1 x.f2 x.f3 y.f0 y.f1 y.f2 y.f3) (decide (cmpM x y < 0)) := by
  unfold impl_LessTerm.f
  exact Ev.bind (impl_cmp_all x hb y) (Ev.now _)
theorem impl_Same_loop (l m : List S26) (hl : (budIL l : Int) ≤ 4194304) (hm : l.length = m.length)
    (h : ∀ y ∈ l, ∀ z, Ev (fun k => impl_SameTerm.f k y.f0 y.f1 y.f2 y.f3 z.f0 z.f1 z.f2 z.f3) (sameM y z)) (d : Nat) : ∀ (i : Nat), i + d = l.length → Ev (fun k => slices_EqualFunc_of_impl_SameTerm.l0 k m l (l.length : Int) i) (sameML (l.drop i) (m.drop i)) := by
  have hlen := budIL_len l
  induction d with
  | zero =>
    intro i hi
    refine Ev.step (f := fun _ => some true) (fun k => ?_) (ev_cast ?_ (Ev.now _))
    · simp only [slices_EqualFunc_of_impl_SameTerm.l0]; rw [if_neg (by omega)]
    · rw [List.drop_eq_nil_of_le (by omega), List.drop_eq_nil_of_le (by omega)]; rfl
  | succ d ih =>
    intro i hi
    have hlt : i < l.length := by omega
    have e := h _ (rdI_mem l i hlt) (rd_T26 m i)
    have hn := ih (i + 1) (by omega)
    rw [dropI l i hlt, dropI m i (by omega), sameML]
    generalize hy : rd_T26 l i = y at *
    generalize hz : rd_T26 m i = z at *
    refine Ev.step (f := fun k => (impl_SameTerm.f k y.f0 y.f1 y.f2 y.f3 z.f0 z.f1 z.f2 z.f3).bind fun t => (if t = true then (slices_EqualFunc_of_impl_SameTerm.l0 k m l (l.length : Int) (wrap64 ((i : Int) + 1))) else (some false))) (fun k => ?_) (Ev.bind e ?_)
    · simp only [slices_EqualFunc_of_impl_SameTerm.l0]; rw [if_pos (by omega), if_pos (by omega), if_pos (by omega), if_pos (by omega), hy, hz]
    · rw [w64 _ (by omega) (by omega)]
      cases hs : sameM y z with
      | true => exact ev_pos rfl hn
      | false => exact ev_neg (by decide) (Ev.now _)
theorem impl_EqualFunc_of (l m : List S26) (hl : (budIL l : Int) ≤ 4194304)
    (h : ∀ y ∈ l, ∀ z, Ev (fun k => impl_SameTerm.f k y.f0 y.f1 y.f2 y.f3 z.f0 z.f1 z.f2 z.f3) (sameM y z)) : Ev (fun k => slices_EqualFunc_of_impl_SameTerm.f k l m) (sameML l m) := by
  by_cases h4 : l.length = m.length
  · refine Ev.step (fun k => ?_) (impl_Same_loop l m hl h4 h l.length 0 (by omega))
    simp only [slices_EqualFunc_of_impl_SameTerm.f]; rw [if_pos (by omega)]; rfl
  · refine Ev.step (f := fun _ => some false) (fun k => ?_) (ev_cast ?_ (Ev.now _))
    · simp only [slices_EqualFunc_of_impl_SameTerm.f]; rw [if_neg (by omega)]
    · cases hs : sameML l m with
      | true => exact absurd (sameML_len l m hs) h4
      | false => rfl
theorem impl_Same_all : ∀ x, (budI x : Int) ≤ 4194304 → ∀ z, Ev (fun k => impl_SameTerm.f k x.f0 x.f1 x.f2 x.f3 z.f0 z.f1 z.f2 z.f3) (sameM x z) := by
  refine indI ?_
  intro a b s l ih hb z
  rw [budI] at hb
  obtain ⟨a2, b2, s2, m⟩ := z
  have e := impl_EqualFunc_of l m (by omega) (fun y hy z => ih y hy (by have := budI_mem l y hy; omega) z)
  rw [sameM]
  simp only []
  by_cases h1 : a = a2
  · by_cases h2 : b = b2
    · by_cases h3 : s.toList = s2.toList
      · refine Ev.step (f := fun k => (slices_EqualFunc_of_impl_SameTerm.f k l m).bind fun t => some t) (fun k => ?_) (Ev.bind e (ev_cast ?_ (Ev.now _)))
        · simp only [impl_SameTerm.f]; rw [if_pos h1, if_pos h2, if_pos h3]
        · simp [h1, h2, h3]
      · refine Ev.step (f := fun _ => some false) (fun k => ?_) (ev_cast ?_ (Ev.now _))
        · simp only [impl_SameTerm.f]; rw [if_pos h1, if_pos h2, if_neg h3]
        · simp [h3]
    · refine Ev.step (f := fun _ => some false) (fun k => ?_) (ev_cast ?_ (Ev.now _))
      · simp only [impl_SameTerm.f]; rw [if_pos h1, if_neg h2]
      · simp [h2]
  · refine Ev.step (f := fun _ => some false) (fun k => ?_) (ev_cast ?_ (Ev.now _))
    · simp only [impl_SameTerm.f]; rw [if_neg h1]
    · simp [h1]
theorem impl_inRange_eq (a b c : Int) : impl_inRange.f a b c = some (decide (b ≤ a) && decide (a ≤ c)) := by
  unfold impl_inRange.f
  by_cases h : b ≤ a <;> simp [h]
theorem impl_isSmall_eq (c : Int) : impl_isSmall.f c = some (lowB c) := by
  unfold impl_isSmall.f lowB
  by_cases h : 97 ≤ c <;> simp [h]
theorem impl_isFigure_eq (c : Int) : impl_isFigure.f c = some (digB c) := by
  unfold impl_isFigure.f digB
  by_cases h : 48 ≤ c <;> simp [h]
theorem impl_AtomOk_l (s : ByteArray) (hs : s.size ≤ 140737488351232) (d : Nat) : ∀ i : Nat, i + d = s.size → Ev (fun k => impl_AtomOk.l0 k s i) (atomFrom s i && (decide (1 ≤ (s.size : Int)) && decide ((s.size : Int) ≤ 20))) := by
  induction d with
  | zero =>
    intro i hi
    refine Ev.step (f := fun _ => some (decide (1 ≤ (s.size : Int)) && decide ((s.size : Int) ≤ 20))) (fun k => ?_) (ev_cast ?_ (Ev.now _))
    · simp only [impl_AtomOk.l0]
      rw [if_neg (by omega), impl_inRange_eq]; rfl
    · rw [atomFrom_end s i (by omega)]; rfl
  | succ d ih =>
    intro i hi
    have hlt : i < s.size := by omega
    have hn := ih (i + 1) (by omega)
    rw [atomFrom_step s i hlt]
    by_cases h1 : lowB (bt s i) = true
    · refine Ev.step (fun k => ?_) (ev_cast ?_ hn)
      · simp only [impl_AtomOk.l0]
        rw [if_pos (by omega), if_pos (by omega), impl_isSmall_eq]
        simp only [Option.bind_some]
        rw [if_pos h1, w64 _ (by omega) (by omega)]
        rfl
      · rw [h1]; rfl
    · have h1' : lowB (bt s i) = false := by simpa using h1
      by_cases h0 : i = 0
      · refine Ev.step (f := fun _ => some false) (fun k => ?_) (ev_cast ?_ (Ev.now _))
        · simp only [impl_AtomOk.l0]
          rw [if_pos (by omega), if_pos (by omega), impl_isSmall_eq]
          simp only [Option.bind_some]
          rw [if_neg h1, if_pos (by omega)]
        · rw [h1']; simp [h0]
      · by_cases h2 : digB (bt s i) = true
        · refine Ev.step (fun k => ?_) (ev_cast ?_ hn)
          · simp only [impl_AtomOk.l0]
            rw [if_pos (by omega), if_pos (by omega), impl_isSmall_eq]
            simp only [Option.bind_some]
            rw [if_neg h1, if_neg (by omega), impl_isFigure_eq]
            simp only [Option.bind_some]
            rw [if_pos h2, w64 _ (by omega) (by omega)]
            rfl
          · rw [h2]; simp [h0]
        · have h2' : digB (bt s i) = false := by simpa using h2
          by_cases h3 : bt s i = 95
          · refine Ev.step (fun k => ?_) (ev_cast ?_ hn)
            · simp only [impl_AtomOk.l0]
              rw [if_pos (by omega), if_pos (by omega), impl_isSmall_eq]
              simp only [Option.bind_some]
              rw [if_neg h1, if_neg (by omega), impl_isFigure_eq]
              simp only [Option.bind_some]
              rw [if_neg h2, if_pos h3, w64 _ (by omega) (by omega)]
              rfl
            · simp [h0, h3]
          · refine Ev.step (f := fun _ => some false) (fun k => ?_) (ev_cast ?_ (Ev.now _))
            · simp only [impl_AtomOk.l0]
              rw [if_pos (by omega), if_pos (by omega), impl_isSmall_eq]
              simp only [Option.bind_some]
              rw [if_neg h1, if_neg (by omega), impl_isFigure_eq]
              simp only [Option.bind_some]
              rw [if_neg h2, if_neg h3]
            · rw [h1', h2']; simp [h3]
theorem impl_AtomOk_ev (s : ByteArray) (hs : s.size ≤ 140737488351232) : Ev (fun k => impl_AtomOk.f k s) (atomOkM s) := impl_AtomOk_l s hs s.size 0 (by omega)
theorem impl_plainOk_ev (a b : Int) (s : ByteArray) (l : List S26) (hs : s.size ≤ 140737488351232) : Ev (fun k => impl_Term_plainOk.f k a b s l) (shapeM a b s l) := by
  unfold impl_Term_plainOk.f shapeM noText
  by_cases h1 : a = 1
  · rw [if_pos h1]
    refine ev_pos h1 (ev_of ?_)
    rw [impl_inRange_eq]
    simp only [Option.bind_some]
    by_cases p : (decide (-1000000000000 ≤ b) && decide (b ≤ 1000000000000)) = true
    · by_cases q : s.toList = ([] : List UInt8)
      · rw [if_pos p, if_pos q, p, decide_eq_true q]; rfl
      · rw [if_pos p, if_neg q, p, decide_eq_false q]; rfl
    · rw [if_neg p, Bool.eq_false_iff.mpr p]; rfl
  rw [if_neg h1]
  refine ev_neg h1 ?_
  by_cases h2 : a = 2
  · rw [if_pos h2]
    refine ev_pos h2 ?_
    by_cases q : b = 0
    · refine ev_pos q (Ev.bind (impl_AtomOk_ev s hs) ?_)
      cases hA : atomOkM s with
      | true => exact ev_pos rfl (ev_cast (by rw [decide_eq_true q]; rfl) (Ev.now _))
      | false => exact ev_neg (by decide) (Ev.now _)
    · exact ev_neg q (ev_cast (by rw [decide_eq_false q]; simp) (Ev.now _))
  rw [if_neg h2]
  refine ev_neg h2 (ev_of ?_)
  by_cases h3 : a = 3
  · rw [if_pos h3, if_pos h3, impl_inRange_eq]
    simp only [Option.bind_some]
    by_cases p : (decide (0 ≤ b) && decide (b ≤ 1000000)) = true
    · by_cases q : s.toList = ([] : List UInt8)
      · rw [if_pos p, if_pos q, p, decide_eq_true q]; rfl
      · rw [if_pos p, if_neg q, p, decide_eq_false q]; rfl
    · rw [if_neg p, Bool.eq_false_iff.mpr p]; rfl
  rw [if_neg h3, if_neg h3]
  by_cases h4 : a = 4
  · rw [if_pos h4, if_pos h4]
    by_cases p : b = 0
    · by_cases q : s.toList = ([] : List UInt8)
      · rw [if_pos p, if_pos q, decide_eq_true p, decide_eq_true q]; rfl
      · rw [if_pos p, if_neg q, decide_eq_true p, decide_eq_false q]; rfl
    · rw [if_neg p, decide_eq_false p]; rfl
  rw [if_neg h4, if_neg h4]
  by_cases h5 : a = 5
  · rw [if_pos h5, if_pos h5]
    by_cases p : b = 0
    · by_cases q : s.toList = ([] : List UInt8)
      · rw [if_pos p, if_pos q, decide_eq_true p, decide_eq_true q]; rfl
      · rw [if_pos p, if_neg q, decide_eq_true p, decide_eq_false q]; rfl
    · rw [if_neg p, decide_eq_false p]; rfl
  · rw [if_neg h5, if_neg h5]
def measRes (n0 : Nat) (g : Bool) (c : Nat) : Int := if g = true ∧ n0 + c ≤ 300 then ((n0 + c : Nat) : Int) else 301
theorem impl_measure_loop (l : List S26) (hl : (budIL l : Int) ≤ 4194304) (n : Nat) (dp : Int) (hd : dp + n = 8) (hd1 : 1 ≤ dp)
    (h : ∀ y ∈ l, Ev (fun k => impl_Term_measure.f k y.f0 y.f1 y.f2 y.f3 (dp + 1)) (measRes 0 (goodM y n) (countM y))) (d : Nat) :
    ∀ (i : Nat) (m : Nat), i + d = l.length → m ≤ 300 → Ev (fun k => impl_Term_measure.l0 k dp m l (l.length : Int) i) (measRes m (goodML (l.drop i) n) (countML (l.drop i))) := by
  have hlen := budIL_len l
  induction d with
  | zero =>
    intro i m hi hm
    refine Ev.step (f := fun _ => some (m : Int)) (fun k => ?_) (ev_cast ?_ (Ev.now _))
    · simp only [impl_Term_measure.l0]; rw [if_neg (by omega)]
    · rw [List.drop_eq_nil_of_le (by omega), goodML, countML]
      unfold measRes; rw [if_pos ⟨rfl, by omega⟩]; rfl
  | succ d ih =>
    intro i m hi hm
    have hlt : i < l.length := by omega
    have e := h _ (rdI_mem l i hlt)
    rw [dropI l i hlt, goodML, countML]
    generalize hy : rd_T26 l i = y at *
    refine Ev.step (f := fun k => (impl_Term_measure.f k y.f0 y.f1 y.f2 y.f3 (dp + 1)).bind fun t => (if (wrap64 ((m : Int) + t)) > 300 then (some 301) else (impl_Term_measure.l0 k dp (wrap64 ((m : Int) + t)) l (l.length : Int) (wrap64 ((i : Int) + 1))))) (fun k => ?_) (Ev.bind e ?_)
    · simp only [impl_Term_measure.l0]; rw [if_pos (by omega), if_pos (by omega), if_pos (by omega), hy, w64 (dp + 1) (by omega) (by omega)]
    · have hr : 0 ≤ measRes 0 (goodM y n) (countM y) ∧ measRes 0 (goodM y n) (countM y) ≤ 301 := by
        unfold measRes; split <;> omega
      rw [w64 _ (by omega) (by omega), w64 _ (by omega) (by omega)]
      cases hg : goodM y n with
      | false =>
        refine ev_pos (by unfold measRes; simp; omega) (ev_cast ?_ (Ev.now _))
        unfold measRes; simp
      | true =>
        by_cases hq : countM y ≤ 300
        · have hv : measRes 0 true (countM y) = countM y := by unfold measRes; rw [if_pos ⟨rfl, by omega⟩]; omega
          rw [hv]
          by_cases hq2 : (m : Int) + countM y > 300
          · refine ev_pos hq2 (ev_cast ?_ (Ev.now _))
            unfold measRes; rw [if_neg (by omega)]
          · refine ev_neg hq2 ?_
            have := ih (i + 1) (m + countM y) (by omega) (by omega)
            rw [show ((m + countM y : Nat) : Int) = (m : Int) + countM y from by omega] at this
            refine ev_cast ?_ this
            unfold measRes
            rw [Bool.true_and]
            cases goodML (l.drop (i + 1)) n with
            | false => simp
            | true =>
              by_cases hq3 : m + countM y + countML (l.drop (i + 1)) ≤ 300
              · rw [if_pos ⟨rfl, hq3⟩, if_pos ⟨rfl, by omega⟩]; omega
              · rw [if_neg (by omega), if_neg (by omega)]
        · have hv : measRes 0 true (countM y) = 301 := by unfold measRes; rw [if_neg (by omega)]
          rw [hv]
          refine ev_pos (by omega) (ev_cast ?_ (Ev.now _))
          unfold measRes; rw [if_neg (by omega)]
theorem impl_measure_all : ∀ x, (budI x : Int) ≤ 4194304 → ∀ (n : Nat) (dp : Int), dp + n = 9 → 1 ≤ dp → Ev (fun k => impl_Term_measure.f k x.f0 x.f1 x.f2 x.f3 dp) (measRes 0 (goodM x n) (countM x)) := by
  refine indI ?_
  intro a b s l ih hb n dp hd h1
  rw [budI] at hb
  simp only []
  have no : Ev (fun k => impl_Term_measure.j0 k dp true a b s l) 301 := Ev.step (f := fun _ => some 301) (fun k => by simp [impl_Term_measure.j0]) (Ev.now _)
  cases n with
  | zero =>
    refine Ev.step (fun k => ?_) (ev_cast ?_ no)
    · simp only [impl_Term_measure.f]; rw [if_pos (by omega)]
    · rw [goodM]; unfold measRes; simp
  | succ n =>
    rw [goodM, countM]
    refine Ev.step (f := fun k => (impl_Term_plainOk.f k a b s l).bind fun t => (impl_Term_measure.j0 k dp (!t) a b s l)) (fun k => ?_) (Ev.bind (impl_plainOk_ev a b s l (by omega)) ?_)
    · simp only [impl_Term_measure.f]; rw [if_neg (by omega)]
    cases hsh : shapeM a b s l with
    | false => exact ev_cast (by unfold measRes; simp) no
    | true =>
      have e := impl_measure_loop l (by omega) n dp (by omega) h1 (fun y hy => ih y hy (by have := budI_mem l y hy; omega) n (dp + 1) (by omega) (by omega)) l.length 0 1 (by omega) (by omega)
      refine Ev.step (fun k => ?_) (ev_cast ?_ e)
      · simp only [impl_Term_measure.j0]; rw [if_neg (by decide)]; rfl
      · rw [List.drop_zero, Bool.true_and]
        unfold measRes
        rw [Nat.zero_add]
theorem impl_TermOk_ev (x : S26) (hb : (budI x : Int) ≤ 4194304) : Ev (fun k => impl_TermOk.f k x.f0 x.f1 x.f2 x.f3) (termOkM x) := by
  unfold impl_TermOk.f
  refine Ev.bind (impl_measure_all x hb 8 1 (by omega) (by omega)) (ev_cast ?_ (Ev.now _))
  unfold termOkM measRes
  cases goodM x 8 with
  | false => simp
  | true =>
    by_cases hq : countM x ≤ 300
    · rw [if_pos ⟨rfl, by omega⟩, decide_eq_true hq]; simp; omega
    · rw [if_neg (by omega), decide_eq_false hq]; rfl
theorem impl_isOp_eq (s : ByteArray) : impl_isOp.f s = some (opL s.toList) := by
  unfold impl_isOp.f opL
  generalize s.toList = l
  by_cases h1 : l = [43]
  · rw [if_pos h1]; simp [h1]
  rw [if_neg h1]
  by_cases h2 : l = [45]
  · rw [if_pos h2]; simp [h2]
  rw [if_neg h2]
  by_cases h3 : l = [42]
  · rw [if_pos h3]; simp [h3]
  rw [if_neg h3]
  by_cases h4 : l = [61, 61]
  · rw [if_pos h4]; simp [h4]
  rw [if_neg h4]
  by_cases h5 : l = [60] <;> simp [h1, h2, h3, h4, h5]
theorem iTruth_eq (b : Bool) : impl_truth.f b = some ((boolT b).1, (boolT b).2.1, (boolT b).2.2.1, (boolT b).2.2.2.1) := by
  unfold impl_truth.f boolT
  cases b <;> rfl
theorem boolT_eta (b : Bool) : ((boolT b).1, (boolT b).2.1, (boolT b).2.2.1, (boolT b).2.2.2.1, (0 : Int)) = boolT b := by unfold boolT; cases b <;> rfl
theorem mx_abs (a : Int) (ha : -1000000000000 ≤ a ∧ a ≤ 1000000000000) : mx a (wrap64 (-a)) = (a.natAbs : Int) := by
  rw [w64 (-a) (by omega) (by omega)]
  unfold mx
  split <;> omega
theorem iProduct_ev (a b : Int) (ha : -1000000000000 ≤ a ∧ a ≤ 1000000000000) (hb : -1000000000000 ≤ b ∧ b ≤ 1000000000000) : Ev (fun k => (impl_product.f k a b).bind fun bt343 => (if bt343.2 = true then ((impl_inRange.f bt343.1 (-1000000000000) 1000000000000).bind fun t345 => (if t345 = true then (some (numT bt343.1)) else (some (zeroT 3)))) else (some (zeroT 3)))) (rngT (a * b)) := by
  have z : a = 0 ∨ b = 0 → Ev (fun k => impl_product.j0 k a b true) (a * b, true) := fun h => by
    have e : a * b = 0 := by rcases h with h | h <;> rw [h] <;> simp
    rw [e]
    exact Ev.step (f := fun _ => some (0, true)) (fun k => by simp only [impl_product.j0]; rw [if_pos trivial]) (Ev.now _)
  have done : Ev (fun k => impl_product.f k a b) (a * b, true) → Ev (fun k => (impl_product.f k a b).bind fun bt343 => (if bt343.2 = true then ((impl_inRange.f bt343.1 (-1000000000000) 1000000000000).bind fun t345 => (if t345 = true then (some (numT bt343.1)) else (some (zeroT 3)))) else (some (zeroT 3)))) (rngT (a * b)) := fun e =>
    Ev.bind e (ev_pos rfl (Ev.bind (ev_of (impl_inRange_eq _ _ _)) (rngT_ev _)))
  by_cases h1 : a = 0
  · refine done ?_
    unfold impl_product.f
    exact ev_pos h1 (z (.inl h1))
  by_cases h2 : b = 0
  · refine done ?_
    unfold impl_product.f
    have e2 : (b == 0) = true := beq_iff_eq.2 h2
    rw [e2]
    exact ev_neg h1 (z (.inr h2))
  have e2 : (b == 0) = false := beq_eq_false_iff_ne.2 h2
  have hk := abs_mul_lt a b ha hb h2 _ _ rfl rfl
  have hB : ¬ ((b.natAbs : Int) = 0) := by omega
  have hq : wrap64 ((1000000000000 : Int) / (b.natAbs : Int)) = (1000000000000 : Int) / (b.natAbs : Int) := by
    have q0 : 0 ≤ (1000000000000 : Int) / (b.natAbs : Int) := Int.ediv_nonneg (by omega) (by omega)
    have q1 : (1000000000000 : Int) / (b.natAbs : Int) ≤ 1000000000000 := Int.ediv_le_self _ (by omega)
    exact w64 _ (by omega) (by omega)
  by_cases hc : -1000000000000 ≤ a * b ∧ a * b ≤ 1000000000000
  · refine done ?_
    unfold impl_product.f
    rw [e2]
    refine ev_neg h1 (Ev.step (f := fun _ => some (a * b, true)) (fun k => ?_) (Ev.now _))
    simp only [impl_product.j0]
    rw [if_neg (by decide), mx_abs b hb, mx_abs a ha, if_neg hB, hq, if_neg (fun h => (hk.1 h) hc), w64 _ (by omega) (by omega)]
  · have er : rngT (a * b) = zeroT 3 := by unfold rngT; rw [if_neg hc]
    rw [er]
    refine Ev.bind (a := (0, false)) ?_ (ev_neg (by decide) (Ev.now _))
    unfold impl_product.f
    rw [e2]
    refine ev_neg h1 (Ev.step (f := fun _ => some (0, false)) (fun k => ?_) (Ev.now _))
    simp only [impl_product.j0]
    rw [if_neg (by decide), mx_abs b hb, mx_abs a ha, if_neg hB, hq, if_pos (hk.2 hc)]
theorem iArith_ev (op : ByteArray) (a b : Int) (ha : -1000000000000 ≤ a ∧ a ≤ 1000000000000) (hb : -1000000000000 ≤ b ∧ b ≤ 1000000000000) : Ev (fun k => impl_arith.f k op a b) (arithM op.toList a b) := by
  unfold impl_arith.f arithM
  rw [w64 (a + b) (by omega) (by omega), w64 (a - b) (by omega) (by omega)]
  by_cases h1 : op.toList = [43]
  · exact evT h1 (Ev.bind (ev_of (impl_inRange_eq _ _ _)) (rngT_ev _))
  refine evF h1 ?_
  by_cases h2 : op.toList = [45]
  · exact evT h2 (Ev.bind (ev_of (impl_inRange_eq _ _ _)) (rngT_ev _))
  refine evF h2 ?_
  exact iProduct_ev a b ha hb
theorem iOper_ev (op : ByteArray) (x y : S26) (hx : (budI x : Int) ≤ 4194304) (hy : (budI y : Int) ≤ 4194304) (ox : termOkM x = true) (oy : termOkM y = true) : Ev (fun k => impl_operate.f k op x.f0 x.f1 x.f2 x.f3 y.f0 y.f1 y.f2 y.f3) (operG op.toList x y) := by
  unfold impl_operate.f operG
  by_cases h1 : op.toList = [61, 61]
  · refine evT h1 (Ev.bind (impl_Same_all x hx y) (Ev.bind (ev_of (iTruth_eq _)) (ev_cast (boolT_eta _) (Ev.now _))))
  refine evF h1 ?_
  by_cases h2 : op.toList = [60]
  · refine evT h2 (Ev.bind (impl_LessTerm_ev x y hx) (Ev.bind (ev_of (iTruth_eq _)) (ev_cast (boolT_eta _) (Ev.now _))))
  refine evF h2 ?_
  by_cases h3 : x.f0 = 1
  · refine ev_pos h3 ?_
    by_cases h4 : y.f0 = 1
    · exact ev_cast (if_pos ⟨h3, h4⟩).symm (ev_pos h4 (Ev.bind (iArith_ev op x.f1 y.f1 (good_num ox h3).1 (good_num oy h4).1) (Ev.now _)))
    · exact ev_cast (if_neg (fun h => h4 h.2)).symm (ev_neg h4 (Ev.now _))
  · exact ev_cast (if_neg (fun h => h3 h.1)).symm (ev_neg h3 (Ev.now _))
theorem impl_Operate_ev (op : ByteArray) (x y : S26) (hx : (budI x : Int) ≤ 4194304) (hy : (budI y : Int) ≤ 4194304) : Ev (fun k => impl_Operate.f k op x.f0 x.f1 x.f2 x.f3 y.f0 y.f1 y.f2 y.f3) (operM op.toList x y) := by
  unfold impl_Operate.f operM
  refine Ev.bind (ev_of (impl_isOp_eq _)) ?_
  by_cases h1 : opL op.toList = true
  · refine evT h1 (Ev.bind (impl_TermOk_ev x hx) ?_)
    by_cases h2 : termOkM x = true
    · refine evT h2 (Ev.bind (impl_TermOk_ev y hy) ?_)
      by_cases h3 : termOkM y = true
      · exact evT h3 (Ev.bind (iOper_ev op x y hx hy h2 h3) (Ev.now _))
      · exact evF h3 (Ev.now _)
    · exact evF h2 (Ev.now _)
  · exact evF h1 (Ev.now _)
mutual
theorem sameM_eq : ∀ x y, sameM x y = true → x = y
  | ⟨a, b, s, l⟩, ⟨a2, b2, s2, l2⟩, h => by
    rw [sameM] at h
    simp only [Bool.and_eq_true, decide_eq_true_eq, Go.Lib.toList_data] at h
    obtain ⟨rfl, rfl, h3, h4⟩ := h
    have e : s = s2 := ByteArray.ext (Array.toList_inj.1 h3)
    rw [e, sameML_eq l l2 h4]
theorem sameML_eq : ∀ l m, sameML l m = true → l = m
  | [], [], _ => rfl
  | [], _ :: _, h => by rw [sameML] at h; cases h
  | _ :: _, [], h => by rw [sameML] at h; cases h
  | x :: r, y :: m, h => by
    rw [sameML, Bool.and_eq_true] at h
    rw [sameM_eq x y h.1, sameML_eq r m h.2]
end
mutual
theorem sameM_refl : ∀ x, sameM x x = true
  | ⟨a, b, s, l⟩ => by rw [sameM, sameML_refl l]; simp
theorem sameML_refl : ∀ l, sameML l l = true
  | [] => by rw [sameML]; rfl
  | x :: r => by rw [sameML, sameM_refl x, sameML_refl r]; rfl
end
theorem spec_Same_loop (a b : Int) (s : ByteArray) (l : List S26) (a2 b2 : Int) (s2 : ByteArray) (m : List S26) (hl : (budIL l : Int) ≤ 4194304) (hm : l.length = m.length)
    (h : ∀ y ∈ l, ∀ z, Ev (fun k => spec_SameTerm.f k y.f0 y.f1 y.f2 y.f3 z.f0 z.f1 z.f2 z.f3) (sameM y z)) (d : Nat) : ∀ (i : Nat), i + d = l.length → Ev (fun k => spec_SameTerm.l0 k i a b s l a2 b2 s2 m) (sameML (l.drop i) (m.drop i)) := by
  have hlen := budIL_len l
  induction d with
  | zero =>
    intro i hi
    refine Ev.step (f := fun _ => some true) (fun k => ?_) (ev_cast ?_ (Ev.now _))
    · simp only [spec_SameTerm.l0]; rw [if_neg (by omega)]
    · rw [List.drop_eq_nil_of_le (by omega), List.drop_eq_nil_of_le (by omega)]; rfl
  | succ d ih =>
    intro i hi
    have hlt : i < l.length := by omega
    have e := h _ (rdI_mem l i hlt) (rd_T26 m i)
    have hn := ih (i + 1) (by omega)
    rw [dropI l i hlt, dropI m i (by omega), sameML]
    generalize hy : rd_T26 l i = y at *
    generalize hz : rd_T26 m i = z at *
    refine Ev.step (f := fun k => (spec_SameTerm.f k y.f0 y.f1 y.f2 y.f3 z.f0 z.f1 z.f2 z.f3).bind fun t => (if t = true then (spec_SameTerm.l0 k (wrap64 ((i : Int) + 1)) a b s l a2 b2 s2 m) else (some false))) (fun k => ?_) (Ev.bind e ?_)
    · simp only [spec_SameTerm.l0]; rw [if_pos (by omega), if_pos (by omega), if_pos (by omega), hy, hz]
    · rw [w64 _ (by omega) (by omega)]
      cases hs : sameM y z with
      | true => exact ev_pos rfl hn
      | false => exact ev_neg (by decide) (Ev.now _)
theorem spec_Same_all : ∀ x, (budI x : Int) ≤ 4194304 → ∀ z, Ev (fun k => spec_SameTerm.f k x.f0 x.f1 x.f2 x.f3 z.f0 z.f1 z.f2 z.f3) (sameM x z) := by
  refine indI ?_
  intro a b s l ih hb z
  rw [budI] at hb
  obtain ⟨a2, b2, s2, m⟩ := z
  have no : Ev (fun k => spec_SameTerm.j0 k true a b s l a2 b2 s2 m) false := Ev.step (f := fun _ => some false) (fun k => by simp [spec_SameTerm.j0]) (Ev.now _)
  rw [sameM]
  simp only []
  by_cases h1 : a = a2
  · by_cases h2 : b = b2
    · by_cases h3 : s.toList = s2.toList
      · by_cases h4 : l.length = m.length
        · have e := spec_Same_loop a b s l a2 b2 s2 m (by omega) h4 (fun y hy z => ih y hy (by have := budI_mem l y hy; omega) z) l.length 0 (by omega)
          refine Ev.step (f := fun k => spec_SameTerm.j0 k false a b s l a2 b2 s2 m) (fun k => ?_) (Ev.step (fun k => ?_) (ev_cast ?_ e))
          · simp only [spec_SameTerm.f]; rw [if_pos h1, if_pos h2, if_pos h3, h4]; simp
          · simp only [spec_SameTerm.j0]; rw [if_neg (by decide)]; rfl
          · simp [h1, h2, h3]
        · refine Ev.step (fun k => ?_) (ev_cast ?_ no)
          · simp only [spec_SameTerm.f]; rw [if_pos h1, if_pos h2, if_pos h3]
            congr 1
            simp; omega
          · cases hs : sameML l m with
            | true => exact absurd (sameML_len l m hs) h4
            | false => simp
      · refine Ev.step (fun k => ?_) (ev_cast ?_ no)
        · simp only [spec_SameTerm.f]; rw [if_pos h1, if_pos h2, if_neg h3]
        · simp [h3]
    · refine Ev.step (fun k => ?_) (ev_cast ?_ no)
      · simp only [spec_SameTerm.f]; rw [if_pos h1, if_neg h2]
      · simp [h2]
  · refine Ev.step (fun k => ?_) (ev_cast ?_ no)
    · simp only [spec_SameTerm.f]; rw [if_neg h1]
    · simp [h1]
theorem same_cmp {x y : S26} {n m : Nat} (hx : goodM x n = true) (hy : goodM y m = true) : sameM x y = decide (cmpM x y = 0) := by
  by_cases h : cmpM x y = 0
  · rw [decide_eq_true h, cmp_zero x n hx y m hy h, sameM_refl]
  · rw [decide_eq_false h]
    cases hs : sameM x y with
    | false => rfl
    | true => exact absurd (by rw [sameM_eq x y hs]; exact cmp_refl y) h
theorem sless_loop (a b : Int) (s : ByteArray) (l : List S26) (a2 b2 : Int) (s2 : ByteArray) (m : List S26) (hl : (budIL l : Int) ≤ 4194304) (n1 n2 : Nat) (hg1 : ∀ x ∈ l, goodM x n1 = true) (hg2 : ∀ y ∈ m, goodM y n2 = true)
    (h : ∀ x ∈ l, ∀ y ∈ m, Ev (fun k => spec_LessTerm.f k x.f0 x.f1 x.f2 x.f3 y.f0 y.f1 y.f2 y.f3) (decide (cmpM x y < 0))) (d : Nat) :
    ∀ (i : Nat), i + d = l.length → Ev (fun k => spec_LessTerm.l0 k i a b s l a2 b2 s2 m) (decide (cmpL (l.drop i) (m.drop i) < 0)) := by
  have hlen := budIL_len l
  have stop : ∀ i : Nat, Ev (fun k => spec_LessTerm.j3 k i false a b s l a2 b2 s2 m) (decide ((l.length : Int) < (m.length : Int))) := fun i => Ev.step (f := fun _ => some (decide ((l.length : Int) < (m.length : Int)))) (fun k => by simp only [spec_LessTerm.j3]; rw [if_neg (by decide)]) (Ev.now _)
  induction d with
  | zero =>
    intro i hi
    refine Ev.step (f := fun k => spec_LessTerm.j3 k i false a b s l a2 b2 s2 m) (fun k => ?_) (ev_cast ?_ (stop i))
    · simp only [spec_LessTerm.l0]; rw [if_neg (by omega)]
    · rw [List.drop_eq_nil_of_le (by omega), cmpL]
      by_cases hm : l.length < m.length
      · rw [List.drop_eq_getElem_cons (by omega), decide_eq_true (by omega)]; rfl
      · rw [List.drop_eq_nil_of_le (by omega), decide_eq_false (by omega)]; rfl
  | succ d ih =>
    intro i hi
    have hlt : i < l.length := by omega
    have hn := ih (i + 1) (by omega)
    by_cases hm : i < m.length
    · have hxm := rdI_mem l i hlt
      have hym := rdI_mem m i hm
      have e := h _ hxm _ hym
      have es := spec_Same_all (rd_T26 l i) (by have := budI_mem l _ hxm; omega) (rd_T26 m i)
      have hsc := same_cmp (hg1 _ hxm) (hg2 _ hym)
      rw [dropI l i hlt, dropI m i hm, cmpL]
      generalize hy : rd_T26 l i = y at *
      generalize hz : rd_T26 m i = z at *
      refine Ev.step (f := fun k => spec_LessTerm.j3 k i true a b s l a2 b2 s2 m) (fun k => ?_) (Ev.step (f := fun k => (spec_SameTerm.f k y.f0 y.f1 y.f2 y.f3 z.f0 z.f1 z.f2 z.f3).bind fun t298 => (if t298 = true then (spec_LessTerm.l0 k (wrap64 ((i : Int) + 1)) a b s l a2 b2 s2 m) else ((spec_LessTerm.f k y.f0 y.f1 y.f2 y.f3 z.f0 z.f1 z.f2 z.f3).bind fun t301 => (some t301)))) (fun k => ?_) (Ev.bind es ?_))
      · simp only [spec_LessTerm.l0]
        rw [if_pos (by omega), decide_eq_true (by omega)]
      · simp only [spec_LessTerm.j3]
        rw [if_pos trivial, if_pos (by omega), if_pos (by omega), if_pos (by omega), hy, hz]
      · rw [w64 _ (by omega) (by omega), hsc]
        by_cases h0 : cmpM y z = 0
        · rw [if_pos h0]; exact ev_pos (decide_eq_true h0) hn
        · rw [if_neg h0]; exact ev_neg (by rw [decide_eq_false h0]; decide) (Ev.bind e (Ev.now _))
    · refine Ev.step (f := fun k => spec_LessTerm.j3 k i false a b s l a2 b2 s2 m) (fun k => ?_) (ev_cast ?_ (stop i))
      · simp only [spec_LessTerm.l0]; rw [if_pos (by omega), decide_eq_false (by omega)]
      · rw [dropI l i hlt, List.drop_eq_nil_of_le (show m.length ≤ i by omega), cmpL, decide_eq_false (by omega)]; rfl
theorem spec_Less_all : ∀ x n, goodM x n = true → (budI x : Int) ≤ 4194304 → ∀ y m, goodM y m = true → Ev (fun k => spec_LessTerm.f k x.f0 x.f1 x.f2 x.f3 y.f0 y.f1 y.f2 y.f3) (decide (cmpM x y < 0)) := by
  refine indI (fun a b s l ih n hg hb y m hy => ?_)
  obtain ⟨a2, b2, s2, l2⟩ := y
  obtain ⟨n1, rfl, hs, hl⟩ := good_mk hg
  obtain ⟨m1, rfl, hs2, hl2⟩ := good_mk hy
  rw [budI_mk] at hb
  have hg1 := goodL_mem l n1 hl
  have hg2 := goodL_mem l2 m1 hl2
  have hL := sless_loop a b s l a2 b2 s2 l2 (by omega) n1 m1 hg1 hg2 (fun x hx y hy => ih x hx n1 (hg1 x hx) (by have := budI_mem l x hx; omega) y m1 (hg2 y hy)) l.length 0 (by omega)
  have hJ : Ev (fun k => spec_LessTerm.j1 k a b s l a2 b2 s2 l2) (decide (cmpL l l2 < 0)) := Ev.step (fun k => by simp only [spec_LessTerm.j1]; rfl) hL
  rw [cmpM]
  show Ev (fun k => spec_LessTerm.f k a b s l a2 b2 s2 l2) _
  simp only
  by_cases h : a = a2
  · rw [if_pos h]
    have key : ∀ q : Bool, (q = true ↔ (a = 1 ∨ a = 3)) → Ev (fun k => spec_LessTerm.j0 k q a b s l a2 b2 s2 l2) (decide ((if a = 1 ∨ a = 3 then cI b b2 else if a = 2 then cB s.toList s2.toList else if a = 4 then (if l.length = l2.length then cmpL l l2 else cI l.length l2.length) else if a = 5 then cmpL l l2 else 0) < 0)) := by
      intro q hq
      by_cases c1 : a = 1 ∨ a = 3
      · rw [if_pos c1]
        refine Ev.step (f := fun _ => some (decide (b < b2))) (fun k => ?_) (ev_cast ?_ (Ev.now _))
        · simp only [spec_LessTerm.j0]; rw [if_pos (hq.2 c1)]
        · rw [decide_eq_decide, cI_neg]
      have hq2 : ¬ q = true := fun e => c1 (hq.1 e)
      rw [if_neg c1]
      by_cases c2 : a = 2
      · rw [if_pos c2]
        refine Ev.step (f := fun _ => some (Op.bytesLess s.toList s2.toList)) (fun k => ?_) (ev_cast ?_ (Ev.now _))
        · simp only [spec_LessTerm.j0]; rw [if_neg hq2, if_pos c2]
        · cases hbl : Op.bytesLess s.toList s2.toList with
          | true => exact (decide_eq_true ((cB_neg _ _).2 hbl)).symm
          | false => exact (decide_eq_false (fun hc => by rw [(cB_neg _ _).1 hc] at hbl; cases hbl)).symm
      rw [if_neg c2]
      by_cases c4 : a = 4
      · rw [if_pos c4]
        refine Ev.step (f := fun k => (if (l.length : Int) = (l2.length : Int) then (spec_LessTerm.j1 k a b s l a2 b2 s2 l2) else (some (decide ((l.length : Int) < (l2.length : Int)))))) (fun k => ?_) ?_
        · simp only [spec_LessTerm.j0]; rw [if_neg hq2, if_neg c2, if_pos c4]
        · by_cases hn : l.length = l2.length
          · rw [if_pos hn]; exact ev_pos (by omega) hJ
          · rw [if_neg hn]; exact ev_neg (by omega) (ev_cast (by rw [decide_eq_decide, cI_neg]) (Ev.now _))
      rw [if_neg c4]
      have c5 : a = 5 := by
        rcases shape_cases hs with h | h | h | h
        · exact absurd (.inl h.1) c1
        · exact absurd h.1 c2
        · exact absurd (.inr h.1) c1
        · rcases h.1 with h | h
          · exact absurd h c4
          · exact h
      rw [if_pos c5]
      refine Ev.step (fun k => ?_) hJ
      simp only [spec_LessTerm.j0]; rw [if_neg hq2, if_neg c2, if_neg c4]
    by_cases c1 : a = 1
    · refine Ev.step (f := fun k => spec_LessTerm.j0 k true a b s l a2 b2 s2 l2) (fun k => ?_) (key _ (by simp; exact .inl c1))
      simp only [spec_LessTerm.f]; rw [if_pos h, if_pos c1]
    · refine Ev.step (f := fun k => spec_LessTerm.j0 k (a == 3) a b s l a2 b2 s2 l2) (fun k => ?_) (key _ (by rw [beq_iff_eq]; omega))
      simp only [spec_LessTerm.f]; rw [if_pos h, if_neg c1]
  · rw [if_neg h]
    refine Ev.step (f := fun _ => some (decide (a < a2))) (fun k => ?_) (ev_cast ?_ (Ev.now _))
    · simp only [spec_LessTerm.f]; rw [if_neg h]
    · rw [decide_eq_decide, cI_neg]
theorem spec_l1In_eq (a b c : Int) : spec_l1In.f a b c = some (decide (b ≤ a) && decide (a ≤ c)) := by
  unfold spec_l1In.f
  by_cases h : b ≤ a <;> simp [h]
theorem spec_AtomOk_l (s : ByteArray) (hs : s.size ≤ 140737488351232) (d : Nat) : ∀ i : Nat, i + d = s.size → Ev (fun k => spec_AtomOk.l0 k s i) (atomFrom s i && (decide (1 ≤ (s.size : Int)) && decide ((s.size : Int) ≤ 20))) := by
  induction d with
  | zero =>
    intro i hi
    refine Ev.step (f := fun _ => some (decide (1 ≤ (s.size : Int)) && decide ((s.size : Int) ≤ 20))) (fun k => ?_) (ev_cast ?_ (Ev.now _))
    · simp only [spec_AtomOk.l0]
      rw [if_neg (by omega), spec_l1In_eq]; rfl
    · rw [atomFrom_end s i (by omega)]; rfl
  | succ d ih =>
    intro i hi
    have hlt : i < s.size := by omega
    have hn := ih (i + 1) (by omega)
    rw [atomFrom_step s i hlt]
    by_cases h1 : lowB (bt s i) = true
    · refine Ev.step (fun k => ?_) (ev_cast ?_ hn)
      · simp only [spec_AtomOk.l0]
        rw [if_pos (by omega), if_pos (by omega), wbt, spec_l1In_eq]
        simp only [Option.bind_some]
        unfold lowB at h1
        rw [if_pos h1, w64 _ (by omega) (by omega)]
        rfl
      · rw [h1]; rfl
    · have h1' : lowB (bt s i) = false := by simpa using h1
      by_cases h0 : i = 0
      · refine Ev.step (f := fun _ => some false) (fun k => ?_) (ev_cast ?_ (Ev.now _))
        · simp only [spec_AtomOk.l0]
          rw [if_pos (by omega), if_pos (by omega), wbt, spec_l1In_eq]
          simp only [Option.bind_some]
          unfold lowB at h1
          rw [if_neg h1, if_pos (by omega)]
        · rw [h1']; simp [h0]
      · by_cases h2 : digB (bt s i) = true
        · refine Ev.step (fun k => ?_) (ev_cast ?_ hn)
          · simp only [spec_AtomOk.l0]
            rw [if_pos (by omega), if_pos (by omega), wbt, spec_l1In_eq]
            simp only [Option.bind_some]
            unfold lowB at h1; unfold digB at h2
            rw [if_neg h1, if_neg (by omega), spec_l1In_eq]
            simp only [Option.bind_some]
            rw [if_pos h2, w64 _ (by omega) (by omega)]
            rfl
          · rw [h2]; simp [h0]
        · have h2' : digB (bt s i) = false := by simpa using h2
          by_cases h3 : bt s i = 95
          · refine Ev.step (fun k => ?_) (ev_cast ?_ hn)
            · simp only [spec_AtomOk.l0]
              rw [if_pos (by omega), if_pos (by omega), wbt, spec_l1In_eq]
              simp only [Option.bind_some]
              unfold lowB at h1; unfold digB at h2
              rw [if_neg h1, if_neg (by omega), spec_l1In_eq]
              simp only [Option.bind_some]
              rw [if_neg h2, if_pos h3, w64 _ (by omega) (by omega)]
              rfl
            · simp [h0, h3]
          · refine Ev.step (f := fun _ => some false) (fun k => ?_) (ev_cast ?_ (Ev.now _))
            · simp only [spec_AtomOk.l0]
              rw [if_pos (by omega), if_pos (by omega), wbt, spec_l1In_eq]
              simp only [Option.bind_some]
              unfold lowB at h1; unfold digB at h2
              rw [if_neg h1, if_neg (by omega), spec_l1In_eq]
              simp only [Option.bind_some]
              rw [if_neg h2, if_neg h3]
            · rw [h1', h2']; simp [h3]
theorem spec_AtomOk_ev (s : ByteArray) (hs : s.size ≤ 140737488351232) : Ev (fun k => spec_AtomOk.f k s) (atomOkM s) := spec_AtomOk_l s hs s.size 0 (by omega)
theorem spec_l2Shape_ev (a b : Int) (s : ByteArray) (l : List S26) (hs : s.size ≤ 140737488351232) : Ev (fun k => spec_l2Shape.f k a b s l) (shapeM a b s l) := by
  unfold spec_l2Shape.f shapeM noText
  by_cases h1 : a = 1
  · rw [if_pos h1]
    refine ev_pos h1 (ev_of ?_)
    rw [spec_l1In_eq]
    simp only [Option.bind_some]
    by_cases p : (decide (-1000000000000 ≤ b) && decide (b ≤ 1000000000000)) = true
    · by_cases q : s.toList = ([] : List UInt8)
      · rw [if_pos p, if_pos q, p, decide_eq_true q]; rfl
      · rw [if_pos p, if_neg q, p, decide_eq_false q]; rfl
    · rw [if_neg p, Bool.eq_false_iff.mpr p]; rfl
  rw [if_neg h1]
  refine ev_neg h1 ?_
  by_cases h2 : a = 2
  · rw [if_pos h2]
    refine ev_pos h2 (Ev.bind (spec_AtomOk_ev s hs) ?_)
    cases hA : atomOkM s with
    | true =>
      by_cases q : b = 0
      · exact ev_pos rfl (ev_pos q (ev_cast (by rw [decide_eq_true q]; rfl) (Ev.now _)))
      · exact ev_pos rfl (ev_neg q (ev_cast (by rw [decide_eq_false q]; rfl) (Ev.now _)))
    | false => exact ev_neg (by decide) (Ev.now _)
  rw [if_neg h2]
  refine ev_neg h2 (ev_of ?_)
  by_cases h3 : a = 3
  · rw [if_pos h3, if_pos h3, spec_l1In_eq]
    simp only [Option.bind_some]
    by_cases p : (decide (0 ≤ b) && decide (b ≤ 1000000)) = true
    · by_cases q : s.toList = ([] : List UInt8)
      · rw [if_pos p, if_pos q, p, decide_eq_true q]; rfl
      · rw [if_pos p, if_neg q, p, decide_eq_false q]; rfl
    · rw [if_neg p, Bool.eq_false_iff.mpr p]; rfl
  rw [if_neg h3, if_neg h3]
  by_cases h4 : a = 4
  · rw [if_pos h4, if_pos h4]
    by_cases p : b = 0
    · by_cases q : s.toList = ([] : List UInt8)
      · rw [if_pos p, if_pos q, decide_eq_true p, decide_eq_true q]; rfl
      · rw [if_pos p, if_neg q, decide_eq_true p, decide_eq_false q]; rfl
    · rw [if_neg p, decide_eq_false p]; rfl
  rw [if_neg h4, if_neg h4]
  by_cases h5 : a = 5
  · rw [if_pos h5, if_pos h5]
    by_cases p : b = 0
    · by_cases q : s.toList = ([] : List UInt8)
      · rw [if_pos p, if_pos q, decide_eq_true p, decide_eq_true q]; rfl
      · rw [if_pos p, if_neg q, decide_eq_true p, decide_eq_false q]; rfl
    · rw [if_neg p, decide_eq_false p]; rfl
  · rw [if_neg h5, if_neg h5]
def lookRes (left : Int) (g : Bool) (c : Nat) : Int := if g = true ∧ (c : Int) ≤ left then left - c else -1
theorem spec_l2Look_loop (a b : Int) (s : ByteArray) (l : List S26) (hl : (budIL l : Int) ≤ 4194304) (n : Nat) (hn : n ≤ 8)
    (h : ∀ y ∈ l, ∀ left : Int, -1 ≤ left → left ≤ 300 → Ev (fun k => spec_l2Look.f k y.f0 y.f1 y.f2 y.f3 n left) (lookRes left (goodM y n) (countM y))) (d : Nat) :
    ∀ (i : Nat) (left : Int), i + d = l.length → -1 ≤ left → left ≤ 300 → Ev (fun k => spec_l2Look.l0 k (n + 1 : Int) left i a b s l) (if left = -1 then -1 else lookRes left (goodML (l.drop i) n) (countML (l.drop i))) := by
  have hlen := budIL_len l
  induction d with
  | zero =>
    intro i left hi h0 h1
    refine Ev.step (f := fun _ => some left) (fun k => ?_) (ev_cast ?_ (Ev.now _))
    · simp only [spec_l2Look.l0]; rw [if_neg (by omega)]
    · rw [List.drop_eq_nil_of_le (by omega), goodML, countML]
      by_cases hm : left = -1
      · rw [if_pos hm]; exact hm
      · rw [if_neg hm]; unfold lookRes; rw [if_pos ⟨rfl, by omega⟩]; omega
  | succ d ih =>
    intro i left hi h0 h1
    have hlt : i < l.length := by omega
    by_cases hm : left = -1
    · refine Ev.step (f := fun _ => some left) (fun k => ?_) (ev_cast ?_ (Ev.now _))
      · simp only [spec_l2Look.l0]; rw [if_pos (by omega), if_neg (by omega)]
      · rw [if_pos hm]; exact hm
    rw [if_neg hm]
    have e := h _ (rdI_mem l i hlt) left h0 h1
    rw [dropI l i hlt, goodML, countML]
    generalize hy : rd_T26 l i = y at *
    refine Ev.step (f := fun k => (spec_l2Look.f k y.f0 y.f1 y.f2 y.f3 n left).bind fun t => (spec_l2Look.l0 k (n + 1 : Int) t (wrap64 ((i : Int) + 1)) a b s l)) (fun k => ?_) (Ev.bind e ?_)
    · simp only [spec_l2Look.l0]; rw [if_pos (by omega), if_pos (by omega), if_pos (by omega), hy, w64 ((n : Int) + 1 - 1) (by omega) (by omega), show (n : Int) + 1 - 1 = n from by omega]
    · rw [w64 _ (by omega) (by omega)]
      have hr : -1 ≤ lookRes left (goodM y n) (countM y) ∧ lookRes left (goodM y n) (countM y) ≤ 300 := by
        unfold lookRes; split <;> omega
      refine ev_cast ?_ (ih (i + 1) _ (by omega) hr.1 hr.2)
      have hc := count_pos y
      cases hg : goodM y n with
      | false =>
        have hv : lookRes left false (countM y) = -1 := by unfold lookRes; simp
        rw [hv, if_pos rfl]
        unfold lookRes; simp
      | true =>
        by_cases hq : (countM y : Int) ≤ left
        · have hv : lookRes left true (countM y) = left - countM y := by unfold lookRes; rw [if_pos ⟨rfl, hq⟩]
          rw [hv, if_neg (by omega), Bool.true_and]
          unfold lookRes
          cases hg2 : goodML (l.drop (i + 1)) n with
          | false => simp
          | true =>
            by_cases hq2 : (countML (l.drop (i + 1)) : Int) ≤ left - countM y
            · rw [if_pos ⟨rfl, hq2⟩, if_pos ⟨rfl, by omega⟩]; omega
            · rw [if_neg (by omega), if_neg (by omega)]
        · have hv : lookRes left true (countM y) = -1 := by unfold lookRes; rw [if_neg (by omega)]
          rw [hv, if_pos rfl]
          unfold lookRes
          rw [if_neg (by omega)]
theorem spec_l2Look_all : ∀ x, (budI x : Int) ≤ 4194304 → ∀ (n : Nat), n ≤ 8 → ∀ left : Int, -1 ≤ left → left ≤ 300 → Ev (fun k => spec_l2Look.f k x.f0 x.f1 x.f2 x.f3 n left) (lookRes left (goodM x n) (countM x)) := by
  refine indI ?_
  intro a b s l ih hb n hn left h0 h1
  rw [budI] at hb
  simp only []
  have no : Ev (fun k => spec_l2Look.j0 k (n : Int) left true a b s l) (-1) := Ev.step (f := fun _ => some (-1)) (fun k => by simp [spec_l2Look.j0]) (Ev.now _)
  cases n with
  | zero =>
    refine Ev.step (fun k => ?_) (ev_cast ?_ no)
    · simp only [spec_l2Look.f]; rw [if_pos (by omega)]
    · rw [goodM]; unfold lookRes; simp
  | succ n =>
    rw [goodM, countM]
    by_cases hl1 : left < 1
    · refine Ev.step (fun k => ?_) (ev_cast ?_ no)
      · simp only [spec_l2Look.f]; rw [if_neg (by omega), if_pos hl1]
      · unfold lookRes; rw [if_neg (by omega)]
    refine Ev.step (f := fun k => (spec_l2Shape.f k a b s l).bind fun t => (spec_l2Look.j0 k ((n + 1 : Nat) : Int) left (!t) a b s l)) (fun k => ?_) (Ev.bind (spec_l2Shape_ev a b s l (by omega)) ?_)
    · simp only [spec_l2Look.f]; rw [if_neg (by omega), if_neg hl1]
    cases hsh : shapeM a b s l with
    | false => exact ev_cast (by unfold lookRes; simp) no
    | true =>
      have e := spec_l2Look_loop a b s l (by omega) n (by omega) (fun y hy left h0 h1 => ih y hy (by have := budI_mem l y hy; omega) n (by omega) left h0 h1) l.length 0 (left - 1) (by omega) (by omega) (by omega)
      refine Ev.step (fun k => ?_) (ev_cast ?_ e)
      · simp only [spec_l2Look.j0]; rw [if_neg (by decide), w64 _ (by omega) (by omega)]; rfl
      · rw [if_neg (by omega), List.drop_zero, Bool.true_and]
        unfold lookRes
        cases goodML l n with
        | false => simp
        | true =>
          by_cases hq : (countML l : Int) ≤ left - 1
          · rw [if_pos ⟨rfl, hq⟩, if_pos ⟨rfl, by omega⟩]; omega
          · rw [if_neg (by omega), if_neg (by omega)]
theorem spec_TermOk_ev (x : S26) (hb : (budI x : Int) ≤ 4194304) : Ev (fun k => spec_TermOk.f k x.f0 x.f1 x.f2 x.f3) (termOkM x) := by
  unfold spec_TermOk.f
  refine Ev.bind (spec_l2Look_all x hb 8 (by omega) 300 (by omega) (by omega)) (ev_cast ?_ (Ev.now _))
  unfold termOkM lookRes
  cases goodM x 8 with
  | false => simp
  | true =>
    by_cases hq : countM x ≤ 300
    · rw [if_pos ⟨rfl, by omega⟩, decide_eq_true hq]; simp; omega
    · rw [if_neg (by omega), decide_eq_false hq]; rfl
theorem spec_l4Op_eq (s : ByteArray) : spec_l4Op.f s = some (opL s.toList) := by
  unfold spec_l4Op.f opL
  generalize s.toList = l
  by_cases h1 : l = [43]
  · rw [if_pos h1]; simp [h1]
  rw [if_neg h1]
  by_cases h2 : l = [45]
  · rw [if_pos h2]; simp [h2]
  rw [if_neg h2]
  by_cases h3 : l = [42]
  · rw [if_pos h3]; simp [h3]
  rw [if_neg h3]
  by_cases h4 : l = [61, 61]
  · rw [if_pos h4]; simp [h4]
  rw [if_neg h4]
  by_cases h5 : l = [60] <;> simp [h1, h2, h3, h4, h5]
theorem sBool_eq (b : Bool) : spec_l8Bool.f b = some ((boolS b).1, (boolS b).2.1, (boolS b).2.2.1, (boolS b).2.2.2.1) := by
  unfold spec_l8Bool.f boolS boolT
  cases b <;> rfl
theorem boolS_eta (b : Bool) : ((boolS b).1, (boolS b).2.1, (boolS b).2.2.1, (boolS b).2.2.2.1, (0 : Int)) = boolT b := by unfold boolS boolT; cases b <;> rfl
theorem sAbs_eq (a : Int) (ha : -1000000000000 ≤ a ∧ a ≤ 1000000000000) : spec_l8Abs.f a = some (a.natAbs : Int) := by
  unfold spec_l8Abs.f
  by_cases h : a < 0
  · rw [if_pos h, w64 (-a) (by omega) (by omega)]; congr 1; omega
  · rw [if_neg h]; congr 1; omega
theorem sArith_ev (op : ByteArray) (x y : S26) (ox : termOkM x = true) (oy : termOkM y = true) (h3 : x.f0 = 1) (h4 : y.f0 = 1) : Ev (fun k => spec_l8Operate.j0 k op false x.f0 x.f1 x.f2 x.f3 y.f0 y.f1 y.f2 y.f3) (arithM op.toList x.f1 y.f1) := by
  have ha := (good_num ox h3).1
  have hb := (good_num oy h4).1
  generalize x.f1 = a at *
  generalize y.f1 = b at *
  refine Ev.step (fun k => by simp only [spec_l8Operate.j0]; rfl) ?_
  refine ev_neg (by decide) ?_
  unfold arithM
  rw [w64 (a + b) (by omega) (by omega), w64 (a - b) (by omega) (by omega)]
  by_cases h1 : op.toList = [43]
  · exact evT h1 (Ev.bind (ev_of (spec_l1In_eq _ _ _)) (rngT_ev _))
  refine evF h1 ?_
  by_cases h2 : op.toList = [45]
  · exact evT h2 (Ev.bind (ev_of (spec_l1In_eq _ _ _)) (rngT_ev _))
  refine evF h2 ?_
  have fin : (-1000000000000 ≤ a * b ∧ a * b ≤ 1000000000000) → Ev (fun k => spec_l8Operate.j1 k false x.f0 a x.f2 x.f3 y.f0 b y.f2 y.f3) (rngT (a * b)) := fun hc => by
    refine Ev.step (fun k => by simp only [spec_l8Operate.j1]; rfl) ?_
    rw [w64 (a * b) (by omega) (by omega)]
    exact ev_neg (by decide) (Ev.bind (ev_of (spec_l1In_eq _ _ _)) (rngT_ev _))
  by_cases z1 : a = 0
  · exact ev_pos z1 (fin (by rw [z1]; simp))
  refine ev_neg z1 ?_
  by_cases z2 : b = 0
  · exact ev_pos z2 (fin (by rw [z2]; simp))
  refine ev_neg z2 (Ev.bind (ev_of (sAbs_eq a ha)) (Ev.bind (ev_of (sAbs_eq b hb)) (ev_neg (by omega) ?_)))
  have hk := abs_mul_lt a b ha hb z2 _ _ rfl rfl
  have hq : wrap64 ((1000000000000 : Int) / (b.natAbs : Int)) = (1000000000000 : Int) / (b.natAbs : Int) := by
    have q0 : 0 ≤ (1000000000000 : Int) / (b.natAbs : Int) := Int.ediv_nonneg (by omega) (by omega)
    have q1 : (1000000000000 : Int) / (b.natAbs : Int) ≤ 1000000000000 := Int.ediv_le_self _ (by omega)
    exact w64 _ (by omega) (by omega)
  rw [hq]
  by_cases hc : -1000000000000 ≤ a * b ∧ a * b ≤ 1000000000000
  · rw [decide_eq_false (fun h => (hk.1 h) hc)]
    exact fin hc
  · rw [decide_eq_true (hk.2 hc)]
    have er : rngT (a * b) = zeroT 3 := by unfold rngT; rw [if_neg hc]
    rw [er]
    exact Ev.step (f := fun _ => some (zeroT 3)) (fun k => by simp only [spec_l8Operate.j1]; rw [if_pos trivial]; rfl) (Ev.now _)
theorem sOper_ev (op : ByteArray) (x y : S26) (hx : (budI x : Int) ≤ 4194304) (ox : termOkM x = true) (oy : termOkM y = true) : Ev (fun k => spec_l8Operate.f k op x.f0 x.f1 x.f2 x.f3 y.f0 y.f1 y.f2 y.f3) (operG op.toList x y) := by
  have bad : ∀ q : Bool, q = true → Ev (fun k => spec_l8Operate.j0 k op q x.f0 x.f1 x.f2 x.f3 y.f0 y.f1 y.f2 y.f3) (zeroT 3) := fun q hq => by
    subst hq
    exact Ev.step (f := fun _ => some (zeroT 3)) (fun k => by simp only [spec_l8Operate.j0]; rw [if_pos trivial]; rfl) (Ev.now _)
  unfold spec_l8Operate.f operG
  by_cases h1 : op.toList = [61, 61]
  · refine evT h1 (Ev.bind (spec_Same_all x hx y) (Ev.bind (ev_of (sBool_eq _)) (ev_cast (boolS_eta _) (Ev.now _))))
  refine evF h1 ?_
  by_cases h2 : op.toList = [60]
  · refine evT h2 (Ev.bind (spec_Less_all x 8 (good_of ox) hx y 8 (good_of oy)) (Ev.bind (ev_of (sBool_eq _)) (ev_cast (boolS_eta _) (Ev.now _))))
  refine evF h2 ?_
  by_cases h3 : x.f0 = 1
  · refine ev_pos h3 ?_
    by_cases h4 : y.f0 = 1
    · have e : (y.f0 != 1) = false := by simp [h4]
      rw [e]
      exact ev_cast (if_pos ⟨h3, h4⟩).symm (sArith_ev op x y ox oy h3 h4)
    · exact ev_cast (if_neg (fun h => h4 h.2)).symm (bad _ (by simp [h4]))
  · exact ev_cast (if_neg (fun h => h3 h.1)).symm (ev_neg h3 (bad _ rfl))
theorem spec_Operate_ev (op : ByteArray) (x y : S26) (hx : (budI x : Int) ≤ 4194304) (hy : (budI y : Int) ≤ 4194304) : Ev (fun k => spec_Operate.f k op x.f0 x.f1 x.f2 x.f3 y.f0 y.f1 y.f2 y.f3) (operM op.toList x y) := by
  unfold spec_Operate.f operM
  refine Ev.bind (ev_of (spec_l4Op_eq _)) ?_
  by_cases h1 : opL op.toList = true
  · refine evT h1 (Ev.bind (spec_TermOk_ev x hx) ?_)
    by_cases h2 : termOkM x = true
    · refine evT h2 (Ev.bind (spec_TermOk_ev y hy) ?_)
      by_cases h3 : termOkM y = true
      · exact evT h3 (Ev.bind (sOper_ev op x y hx h2 h3) (Ev.now _))
      · exact evF h3 (Ev.now _)
    · exact evF h2 (Ev.now _)
  · exact evF h1 (Ev.now _)
theorem operOk {op : List UInt8} {x y : S26} (h : opL op = true) (ox : termOkM x = true) (oy : termOkM y = true) : operM op x y = operG op x y := by
  unfold operM; rw [if_pos h, if_pos ox, if_pos oy]
theorem operC (op : List UInt8) (x y : S26) (h : ¬ (termOkM x = true ∧ termOkM y = true)) : (operM op x y).2.2.2.2 = 1 := by
  unfold operM
  by_cases h1 : opL op = true
  · rw [if_pos h1]
    by_cases h2 : termOkM x = true
    · rw [if_pos h2, if_neg (fun h3 => h ⟨h2, h3⟩)]; rfl
    · rw [if_neg h2]; rfl
  · rw [if_neg h1]; rfl
theorem oper43 (x y : S26) : operG [43] x y = if x.f0 = 1 ∧ y.f0 = 1 then rngT (x.f1 + y.f1) else zeroT 3 := by
  unfold operG arithM; rw [if_neg (by decide), if_neg (by decide), if_pos rfl]
theorem oper42 (x y : S26) : operG [42] x y = if x.f0 = 1 ∧ y.f0 = 1 then rngT (x.f1 * y.f1) else zeroT 3 := by
  unfold operG arithM; rw [if_neg (by decide), if_neg (by decide), if_neg (show ¬ ([42] : List UInt8) = [43] by decide), if_neg (show ¬ ([42] : List UInt8) = [45] by decide)]
theorem oper45 (x y : S26) : operG [45] x y = if x.f0 = 1 ∧ y.f0 = 1 then rngT (x.f1 - y.f1) else zeroT 3 := by
  unfold operG arithM; rw [if_neg (by decide), if_neg (by decide), if_neg (show ¬ ([45] : List UInt8) = [43] by decide), if_pos rfl]
theorem oper43c (x y : S26) : operG [43] x y = operG [43] y x := by
  rw [oper43, oper43, Int.add_comm]
  by_cases h : x.f0 = 1 ∧ y.f0 = 1
  · rw [if_pos h, if_pos ⟨h.2, h.1⟩]
  · rw [if_neg h, if_neg (fun t => h ⟨t.2, t.1⟩)]
theorem oper42c (x y : S26) : operG [42] x y = operG [42] y x := by
  rw [oper42, oper42, Int.mul_comm]
  by_cases h : x.f0 = 1 ∧ y.f0 = 1
  · rw [if_pos h, if_pos ⟨h.2, h.1⟩]
  · rw [if_neg h, if_neg (fun t => h ⟨t.2, t.1⟩)]
theorem tl (a : Array UInt8) : (⟨a⟩ : ByteArray).toList = a.toList := Go.Lib.toList_data _
theorem okNum (n : Int) (h : -1000000000000 ≤ n ∧ n ≤ 1000000000000) : termOkM ⟨1, n, ⟨#[]⟩, []⟩ = true := by
  unfold termOkM
  rw [goodM, goodML, countM]
  unfold shapeM noText
  rw [if_pos rfl, decide_eq_true h.1, decide_eq_true h.2, countML, tl]
  rfl
theorem boolT_txt (b : Bool) : ((boolT b).2.2.1.toList = ([116, 114, 117, 101] : List UInt8)) ↔ b = true := by
  unfold boolT; cases b <;> simp [tl]
theorem j7_ev (c : Int) (q r : Bool) (hc : c = 0 ∨ c = 1) (h : c + (if q = true then 1 else 0) + (if r = true then 1 else 0) = 1) (a1 b1 : Int) (l1 : List S26) (a2 b2 : Int) (l2 : List S26) :
    Ev (fun k => laws_FnOperated.j7 k c a1 b1 (boolT q).2.2.1 l1 a2 b2 (boolT r).2.2.1 l2) true := by
  refine Ev.step (fun k => by simp only [laws_FnOperated.j7]; rfl) ?_
  by_cases hq : q = true
  · refine ev_pos ((boolT_txt q).2 hq) ?_
    rw [if_pos hq] at h
    by_cases hr : r = true
    · rw [if_pos hr] at h; omega
    · rw [if_neg hr] at h
      refine ev_neg (fun t => hr ((boolT_txt r).1 t)) (ev_cast ?_ (Ev.now _))
      rw [w64 (c + 1) (by omega) (by omega)]
      exact beq_iff_eq.2 (by omega)
  · refine ev_neg (fun t => hq ((boolT_txt q).1 t)) ?_
    rw [if_neg hq] at h
    by_cases hr : r = true
    · rw [if_pos hr] at h
      refine ev_pos ((boolT_txt r).2 hr) (ev_cast ?_ (Ev.now _))
      rw [w64 (c + 1) (by omega) (by omega)]
      exact beq_iff_eq.2 (by omega)
    · rw [if_neg hr] at h
      refine ev_neg (fun t => hr ((boolT_txt r).1 t)) (ev_cast ?_ (Ev.now _))
      exact beq_iff_eq.2 (by omega)
theorem j6_ev (x y : S26) (hx : (budI x : Int) ≤ 4194304) (hy : (budI y : Int) ≤ 4194304) (ox : termOkM x = true) (oy : termOkM y = true) :
    Ev (fun k => laws_FnOperated.j6 k x.f0 x.f1 x.f2 x.f3 y.f0 y.f1 y.f2 y.f3) true := by
  have o60 : opL (⟨#[60]⟩ : ByteArray).toList = true := by rw [tl]; rfl
  have o61 : opL (⟨#[61, 61]⟩ : ByteArray).toList = true := by rw [tl]; rfl
  have g60 : ∀ u v : S26, operG (⟨#[60]⟩ : ByteArray).toList u v = boolT (decide (cmpM u v < 0)) := fun u v => by rw [tl]; unfold operG; rw [if_neg (by decide), if_pos rfl]
  have g61 : operG (⟨#[61, 61]⟩ : ByteArray).toList x y = boolT (sameM x y) := by rw [tl]; unfold operG; rw [if_pos rfl]
  have e1 := impl_Operate_ev ⟨#[60]⟩ x y hx hy
  have e2 := impl_Operate_ev ⟨#[60]⟩ y x hy hx
  have e3 := impl_Operate_ev ⟨#[61, 61]⟩ x y hx hy
  rw [operOk o60 ox oy, g60] at e1
  rw [operOk o60 oy ox, g60] at e2
  rw [operOk o61 ox oy, g61] at e3
  have ha := cmp_anti x y
  have hs := same_cmp (good_of ox) (good_of oy)
  refine Ev.step (fun k => by simp only [laws_FnOperated.j6]; rfl) (Ev.bind e1 (Ev.bind e2 (Ev.bind e3 ?_)))
  by_cases h1 : cmpM x y < 0
  · refine ev_pos ((boolT_txt _).2 (decide_eq_true h1)) (j7_ev _ _ _ (.inr rfl) ?_ _ _ _ _ _ _)
    rw [if_neg (by rw [decide_eq_true_iff]; omega), hs, if_neg (by rw [decide_eq_true_iff]; omega)]; rfl
  · refine ev_neg (fun t => h1 (of_decide_eq_true ((boolT_txt _).1 t))) (j7_ev _ _ _ (.inl rfl) ?_ _ _ _ _ _ _)
    by_cases h2 : cmpM x y = 0
    · rw [if_neg (by rw [decide_eq_true_iff]; omega), hs, if_pos (decide_eq_true h2)]; rfl
    · rw [if_pos (decide_eq_true (by omega)), hs, if_neg (by rw [decide_eq_true_iff]; omega)]; rfl
theorem j5_ev (x y : S26) (hx : (budI x : Int) ≤ 4194304) (hy : (budI y : Int) ≤ 4194304) (ox : termOkM x = true) (oy : termOkM y = true) (d : OT) (hd : d = operG [45] x y) :
    Ev (fun k => laws_FnOperated.j5 k d.2.2.2.2 x.f0 x.f1 x.f2 x.f3 y.f0 y.f1 y.f2 y.f3 d.1 d.2.1 d.2.2.1 d.2.2.2.1) true := by
  have h6 := j6_ev x y hx hy ox oy
  have no : d = zeroT 3 → Ev (fun k => laws_FnOperated.j5 k d.2.2.2.2 x.f0 x.f1 x.f2 x.f3 y.f0 y.f1 y.f2 y.f3 d.1 d.2.1 d.2.2.1 d.2.2.2.1) true := fun e => by
    subst e
    exact Ev.step (fun k => by simp only [laws_FnOperated.j5]; rfl) (ev_neg (by show ¬ ((3 : Int) = 0); decide) h6)
  rw [oper45] at hd
  by_cases hn : x.f0 = 1 ∧ y.f0 = 1
  · rw [if_pos hn] at hd
    unfold rngT at hd
    by_cases hr : -1000000000000 ≤ x.f1 - y.f1 ∧ x.f1 - y.f1 ≤ 1000000000000
    · rw [if_pos hr] at hd
      subst hd
      have o43 : opL (⟨#[43]⟩ : ByteArray).toList = true := by rw [tl]; rfl
      have gx := good_num ox hn.1
      have ed := impl_Operate_ev ⟨#[43]⟩ ⟨1, x.f1 - y.f1, ⟨#[]⟩, []⟩ y (by rw [budI_mk, budIL]; decide) hy
      rw [operOk o43 (okNum _ hr) oy, tl] at ed
      have er : operG [43] ⟨1, x.f1 - y.f1, ⟨#[]⟩, []⟩ y = numT x.f1 := by
        rw [oper43, if_pos ⟨rfl, hn.2⟩]
        dsimp only
        rw [Int.sub_add_cancel]
        unfold rngT
        rw [if_pos gx.1]
      rw [er] at ed
      have es := impl_Same_all ⟨1, x.f1, ⟨#[]⟩, []⟩ (by rw [budI_mk, budIL]; decide) x
      have et : sameM ⟨1, x.f1, ⟨#[]⟩, []⟩ x = true := by
        rw [sameM, gx.2.2, sameML, hn.1, decide_eq_true rfl, decide_eq_true rfl]
        have ht := gx.2.1
        unfold noText at ht
        rw [of_decide_eq_true ht, tl]
        rfl
      rw [et] at es
      refine Ev.step (fun k => by simp only [laws_FnOperated.j5]; rfl) ?_
      refine ev_pos rfl (Ev.bind ed ?_)
      exact ev_pos rfl (Ev.bind es (ev_pos rfl h6))
    · rw [if_neg hr] at hd
      exact no hd
  · rw [if_neg hn] at hd
    exact no hd
theorem j3_ev (x y : S26) (hx : (budI x : Int) ≤ 4194304) (hy : (budI y : Int) ≤ 4194304) (ox : termOkM x = true) (oy : termOkM y = true) :
    Ev (fun k => laws_FnOperated.j3 k x.f0 x.f1 x.f2 x.f3 y.f0 y.f1 y.f2 y.f3) true := by
  have o43 : opL (⟨#[43]⟩ : ByteArray).toList = true := by rw [tl]; rfl
  have o42 : opL (⟨#[42]⟩ : ByteArray).toList = true := by rw [tl]; rfl
  have o45 : opL (⟨#[45]⟩ : ByteArray).toList = true := by rw [tl]; rfl
  have e1 := impl_Operate_ev ⟨#[43]⟩ x y hx hy
  have e2 := impl_Operate_ev ⟨#[43]⟩ y x hy hx
  have e3 := impl_Operate_ev ⟨#[42]⟩ x y hx hy
  have e4 := impl_Operate_ev ⟨#[42]⟩ y x hy hx
  have e5 := impl_Operate_ev ⟨#[45]⟩ x y hx hy
  rw [operOk o43 ox oy, tl] at e1
  rw [operOk o43 oy ox, tl] at e2
  rw [operOk o42 ox oy, tl] at e3
  rw [operOk o42 oy ox, tl] at e4
  rw [operOk o45 ox oy, tl] at e5
  have f1 : operG [43] y x = operG [43] x y := oper43c y x
  have f2 : operG [42] y x = operG [42] x y := oper42c y x
  have s1 : ∀ (d : OT), d = operG [43] x y ∨ d = operG [42] x y → Ev (fun k => impl_SameTerm.f k d.1 d.2.1 d.2.2.1 d.2.2.2.1 d.1 d.2.1 d.2.2.1 d.2.2.2.1) true := fun d hd => by
    have hb : (budI ⟨d.1, d.2.1, d.2.2.1, d.2.2.2.1⟩ : Int) ≤ 4194304 := by
      have hl : d.2.2.2.1 = [] ∧ d.2.2.1 = ⟨#[]⟩ := by
        rw [oper43, oper42] at hd
        unfold rngT numT zeroT at hd
        rcases hd with hd | hd <;> (rw [hd]; split <;> (try split) <;> exact ⟨rfl, rfl⟩)
      rw [hl.1, hl.2, budI_mk, budIL]; decide
    have := impl_Same_all ⟨d.1, d.2.1, d.2.2.1, d.2.2.2.1⟩ hb ⟨d.1, d.2.1, d.2.2.1, d.2.2.2.1⟩
    rw [sameM_refl] at this
    exact this
  refine Ev.step (fun k => by simp only [laws_FnOperated.j3]; rfl) (Ev.bind e1 (Ev.bind e2 (Ev.bind e3 (Ev.bind e4 (Ev.bind e5 ?_)))))
  rw [f1, f2]
  refine ev_pos rfl (ev_pos rfl (Ev.bind (s1 _ (.inl rfl)) (ev_pos rfl (Ev.bind (s1 _ (.inr rfl)) ?_))))
  exact Ev.step (fun k => by simp only [laws_FnOperated.j4]; rfl) (ev_neg (by decide) (j5_ev x y hx hy ox oy _ rfl))
theorem FnOperated : laws_FnOperated.Pure := by
  intro l0 hl hl2 hw
  refine Ev.rounds (g := fun k => laws_FnOperated.f k l0) ?_
  unfold laws_FnOperated.f
  rw [laws_big_eq]
  by_cases hb : (l0.length : Int) > 1048576
  · refine Ev.bind (Ev.now _) (ev_pos (decide_eq_true hb) (Ev.now _))
  · refine Ev.bind (Ev.now _) (ev_neg (by simpa using hb) ?_)
    obtain ⟨op, x, y, ed, hx, hy⟩ := spec_DrawOperate_ev l0 (by omega)
    have bad : ¬ (termOkM x = true ∧ termOkM y = true) → Ev (fun k => laws_FnOperated.j2 k (operM op.toList x y).2.2.2.2 true x.f0 x.f1 x.f2 x.f3 y.f0 y.f1 y.f2 y.f3) true := fun h => by
      rw [operC _ _ _ h]
      refine Ev.step (fun k => by simp only [laws_FnOperated.j2]; rfl) ?_
      exact ev_pos trivial (Ev.now _)
    refine Ev.step (fun k => by simp only [laws_FnOperated.j0]; rfl) ?_
    refine Ev.bind ed (Ev.bind (impl_Operate_ev op x y (by omega) (by omega)) (Ev.bind (spec_Operate_ev op x y (by omega) (by omega)) ?_))
    refine ev_pos rfl ?_
    refine Ev.step (fun k => by simp only [laws_FnOperated.j1]; rfl) (Ev.bind (spec_TermOk_ev x (by omega)) ?_)
    by_cases ox : termOkM x = true
    · refine ev_pos ox (Ev.bind (spec_TermOk_ev y (by omega)) ?_)
      by_cases oy : termOkM y = true
      · rw [oy]
        exact Ev.step (fun k => by simp only [laws_FnOperated.j2]; rfl) (ev_neg (by decide) (j3_ev x y (by omega) (by omega) ox oy))
      · rw [Bool.eq_false_iff.mpr oy]
        exact bad (fun h => oy h.2)
    · exact ev_neg ox (bad (fun h => ox h.1))

end Go.Proofs.Ytbdbbgiglojnfaa.Pure
