/- What the law FnExactCodeOk of this seat says holds for every input that its row speaks of; no further condition. -/
import Derived.Test.YtghhbdmjafedbaaQFnExactCodeOkx21
import Derived.Lib.Strings
set_option linter.unusedVariables false
set_option linter.unusedSimpArgs false
namespace Go.Proofs.Ytghhbdmjafedbaa.Pure
open Go.RowKit Go.Proofs.Ytghhbdmjafedbaa.QFnExactCodeOk Go.Proofs.YtghhbdmjafedbaaW.PrintWords Go.Proofs.YtghhbdmjafedbaaW.PrintLast Go.Proofs.YtghhbdmjafedbaaW.PrintMore

theorem ev_pos {α : Type} {c : Prop} [Decidable c] {A B : Nat → Option α} {r : α} (h : c) (e : Ev A r) : Ev (fun k => if c then A k else B k) r := by
 obtain ⟨K, hK⟩ := e
 exact ⟨K, fun k hk => by simp only [if_pos h]; exact hK k hk⟩
theorem ev_neg {α : Type} {c : Prop} [Decidable c] {A B : Nat → Option α} {r : α} (h : ¬ c) (e : Ev B r) : Ev (fun k => if c then A k else B k) r := by
 obtain ⟨K, hK⟩ := e
 exact ⟨K, fun k hk => by simp only [if_neg h]; exact hK k hk⟩
theorem ev_of {α : Type} {o : Option α} {r : α} (h : o = some r) : Ev (fun _ => o) r := ⟨0, fun _ _ => h⟩
theorem ev_cast {α : Type} {g : Nat → Option α} {r r' : α} (h : r = r') (e : Ev g r) : Ev g r' := h ▸ e
theorem w64 (n : Int) (h0 : -9223372036854775808 ≤ n) (h1 : n ≤ 9223372036854775807) : wrap64 n = n := by unfold wrap64; omega
theorem dec_and (p q : Prop) [Decidable p] [Decidable q] : decide (p ∧ q) = (decide p && decide q) := by
 by_cases hp : p <;> by_cases hq : q <;> simp [hp, hq]
def szRes (left : Int) (b : Nat) : Int := if (b : Int) ≤ left then left - b else -1
theorem getDG {α : Type} (z : α) (l : List α) (i : Nat) (h : i < l.length) : l.getD ((i : Int)).toNat z = l[i] := by
 simp [List.getD_eq_getElem?_getD, List.getElem?_eq_getElem h]
theorem map_loop {α β : Type} (L : Nat → List β → Int → Option (List β)) (f : α → β) (l : List α)
  (hstep : ∀ (i : Nat) (h : i < l.length) (x : List β) (r : List β), x.length = l.length → Ev (fun k => L k (x.set i (f l[i])) ((i + 1 : Nat) : Int)) r → Ev (fun k => L k x (i : Int)) r)
  (hend : ∀ x : List β, x.length = l.length → Ev (fun k => L k x (l.length : Int)) x) (d : Nat) :
  ∀ (i : Nat) (x : List β), i + d = l.length → x.length = l.length → x.take i = (l.map f).take i → Ev (fun k => L k x (i : Int)) (l.map f) := by
 induction d with
 | zero =>
  intro i x hi hx ht
  have e : i = l.length := by omega
  subst e
  refine ev_cast ?_ (hend x hx)
  rwa [List.take_of_length_le (by omega), List.take_of_length_le (by rw [List.length_map]; omega)] at ht
 | succ d ih =>
  intro i x hi hx ht
  have hlt : i < l.length := by omega
  refine hstep i hlt x _ hx (ih (i + 1) _ (by omega) (by simpa using hx) ?_)
  rw [List.take_succ_eq_append_getElem (by simpa using (by omega : i < x.length)), List.take_set_of_le (Nat.le_refl i), ht, List.take_succ_eq_append_getElem (by simpa using hlt)]
  simp
theorem map_loop0 {α β : Type} (L : Nat → List β → Int → Option (List β)) (f : α → β) (l : List α) (z : β)
  (hstep : ∀ (i : Nat) (h : i < l.length) (x : List β) (r : List β), x.length = l.length → Ev (fun k => L k (x.set i (f l[i])) ((i + 1 : Nat) : Int)) r → Ev (fun k => L k x (i : Int)) r)
  (hend : ∀ x : List β, x.length = l.length → Ev (fun k => L k x (l.length : Int)) x) : Ev (fun k => L k (List.replicate l.length z) 0) (l.map f) :=
 map_loop L f l hstep hend l.length 0 (List.replicate l.length z) (by omega) (by simp) (by simp)
def sumB {α : Type} (bud : α → Nat) : List α → Nat
 | [] => 0
 | x :: r => bud x + sumB bud r
theorem sumB_drop {α : Type} (bud : α → Nat) (l : List α) (i : Nat) (h : i < l.length) : sumB bud (l.drop i) = bud l[i] + sumB bud (l.drop (i + 1)) := by
 rw [List.drop_eq_getElem_cons h, sumB]
theorem sumB_mem {α : Type} (bud : α → Nat) : ∀ (l : List α) (x : α), x ∈ l → bud x ≤ sumB bud l
 | [], x, h => by cases h
 | y :: r, x, h => by
  rw [sumB]
  rcases List.mem_cons.1 h with rfl | h
  ·omega
  ·have := sumB_mem bud r x h; omega
theorem sz_loopG {α : Type} (L : Nat → Int → Int → Option Int) (bud : α → Nat) (l : List α)
  (hstep : ∀ (i : Nat) (h : i < l.length) (left r : Int), 0 ≤ left → left ≤ 1048576 → ((bud l[i] : Int) ≤ left → Ev (fun k => L k (left - bud l[i]) ((i + 1 : Nat) : Int)) r) → (¬ (bud l[i] : Int) ≤ left → r = -1) → Ev (fun k => L k left (i : Int)) r)
  (hend : ∀ left : Int, Ev (fun k => L k left (l.length : Int)) left) (d : Nat) :
  ∀ (i : Nat) (left : Int), i + d = l.length → 0 ≤ left → left ≤ 1048576 → Ev (fun k => L k left (i : Int)) (szRes left (sumB bud (l.drop i))) := by
 induction d with
 | zero =>
  intro i left hi h0 h1
  have e : i = l.length := by omega
  subst e
  refine ev_cast ?_ (hend left)
  rw [List.drop_eq_nil_of_le (by omega), sumB]; unfold szRes; rw [if_pos (by omega)]; omega
 | succ d ih =>
  intro i left hi h0 h1
  have hlt : i < l.length := by omega
  rw [sumB_drop bud l i hlt]
  refine hstep i hlt left _ h0 h1 (fun hb => ?_) (fun hb => ?_)
  ·refine ev_cast ?_ (ih (i + 1) (left - bud l[i]) (by omega) (by omega) (by omega))
   unfold szRes
   by_cases hc : (sumB bud (l.drop (i + 1)) : Int) ≤ left - bud l[i]
   ·rw [if_pos hc, if_pos (by omega)]; omega
   ·rw [if_neg hc, if_neg (by omega)]
  ·unfold szRes; rw [if_neg (by omega)]
def allFrom (p : Nat → Bool) (i d : Nat) : Bool := (List.range' i d).all p
theorem all_loop (L : Nat → Int → Option Bool) (p : Nat → Bool) (n : Nat)
  (hstep : ∀ (i : Nat), i < n → ∀ r, (p i = true → Ev (fun k => L k ((i + 1 : Nat) : Int)) r) → (p i = false → r = false) → Ev (fun k => L k (i : Int)) r)
  (hend : Ev (fun k => L k (n : Int)) true) (d : Nat) : ∀ i : Nat, i + d = n → Ev (fun k => L k (i : Int)) (allFrom p i d) := by
 induction d with
 | zero =>
  intro i hi
  have e : i = n := by omega
  subst e
  exact hend
 | succ d ih =>
  intro i hi
  refine hstep i (by omega) _ (fun hp => ?_) (fun hp => ?_)
  ·refine ev_cast ?_ (ih (i + 1) (by omega))
   unfold allFrom
   rw [List.range'_succ, List.all_cons, hp, Bool.true_and]
  ·unfold allFrom
   rw [List.range'_succ, List.all_cons, hp, Bool.false_and]
theorem P_indI {P : S67 → Prop} (h : ∀ a b s l, (∀ y ∈ l, P y) → P ⟨a, b, s, l⟩) : ∀ x, P x := by
 intro x
 refine S67.rec (motive_1 := P) (motive_2 := fun l => ∀ y ∈ l, P y) ?_ ?_ ?_ x
 ·intro a b s l hl
  exact h a b s l hl
 ·intro y hy; cases hy
 ·intro x r hx hr y hy
  rcases List.mem_cons.1 hy with rfl | hy
  ·exact hx
  ·exact hr y hy
mutual
def P_budI : S67 → Nat
 | ⟨_, _, s, l⟩ => s.size + P_budIL l
def P_budIL : List S67 → Nat
 | [] => 0
 | x :: r => 1 + P_budI x + P_budIL r
end
theorem P_budIL_len : ∀ l : List S67, l.length ≤ P_budIL l
 | [] => by simp [P_budIL]
 | x :: r => by
  have := P_budIL_len r
  rw [P_budIL, List.length_cons]; omega
theorem P_rdI_mem (l : List S67) (i : Nat) (h : i < l.length) : rd_T67 l i ∈ l := by
 unfold rd_T67
 simp [List.getD_eq_getElem?_getD, List.getElem?_eq_getElem h]
theorem P_budI_mem : ∀ (l : List S67) (x : S67), x ∈ l → P_budI x + 1 ≤ P_budIL l
 | [], x, h => by cases h
 | y :: r, x, h => by
  rw [P_budIL]
  rcases List.mem_cons.1 h with rfl | h
  ·omega
  ·have := P_budI_mem r x h; omega
theorem P_indL {P : S55 → Prop} (h : ∀ a b s l, (∀ y ∈ l, P y) → P ⟨a, b, s, l⟩) : ∀ x, P x := by
 intro x
 refine S55.rec (motive_1 := P) (motive_2 := fun l => ∀ y ∈ l, P y) ?_ ?_ ?_ x
 ·intro a b s l hl
  exact h a b s l hl
 ·intro y hy; cases hy
 ·intro x r hx hr y hy
  rcases List.mem_cons.1 hy with rfl | hy
  ·exact hx
  ·exact hr y hy
mutual
def P_budL : S55 → Nat
 | ⟨_, _, s, l⟩ => s.size + (l.length + P_budLE l)
def P_budLE : List S55 → Nat
 | [] => 0
 | x :: r => P_budL x + P_budLE r
end
mutual
def P_cv : S55 → S67
 | ⟨a, b, s, l⟩ => ⟨a, b, s, P_cvL l⟩
def P_cvL : List S55 → List S67
 | [] => []
 | x :: r => P_cv x :: P_cvL r
end
theorem P_cvL_len : ∀ l, (P_cvL l).length = l.length
 | [] => rfl
 | x :: r => by rw [P_cvL, List.length_cons, List.length_cons, P_cvL_len r]
theorem P_cvL_map : ∀ l, P_cvL l = l.map P_cv
 | [] => rfl
 | x :: r => by rw [P_cvL, List.map_cons, P_cvL_map r]
mutual
theorem P_bud_cv : ∀ x, P_budI (P_cv x) = P_budL x
 | ⟨a, b, s, l⟩ => by rw [P_cv, P_budI, P_budL, P_bud_cvL l]
theorem P_bud_cvL : ∀ l, P_budIL (P_cvL l) = l.length + P_budLE l
 | [] => by rw [P_cvL, P_budIL, P_budLE]; rfl
 | x :: r => by rw [P_cvL, P_budIL, P_budLE, P_bud_cv x, P_bud_cvL r, List.length_cons]; omega
end
theorem P_rdL_mem (l : List S55) (i : Nat) (h : i < l.length) : rd_T55 l i ∈ l := by
 unfold rd_T55
 simp [List.getD_eq_getElem?_getD, List.getElem?_eq_getElem h]
theorem P_dropL (l : List S55) (i : Nat) (h : i < l.length) : l.drop i = rd_T55 l i :: l.drop (i + 1) := by
 rw [List.drop_eq_getElem_cons h]
 unfold rd_T55
 simp [List.getElem?_eq_getElem h]
theorem P_wfL_mem (l : List S55) (h : wfl55 l) : ∀ x ∈ l, wf55 x := (wfl55_iff l).1 h
theorem P_wfL_mk {a b : Int} {s : ByteArray} {l : List S55} (h : wf55 ⟨a, b, s, l⟩) : (Lit.int .i64 a).wf = true ∧ (Lit.int .i64 b).wf = true ∧ (s.size : Int) ≤ 9223372036854775807 ∧ (l.length : Int) ≤ 9223372036854775807 ∧ ∀ x ∈ l, wf55 x := by
 unfold wf55 at h
 obtain ⟨h0, h1, h2, h3, h4⟩ := h
 unfold maxLen at h2 h3
 exact ⟨h0, h1, by omega, by omega, P_wfL_mem l h4⟩
theorem rd_li (l : List S87) (i : Nat) (h : i < l.length) : rd_T87 l (i : Int) = l[i] := getDG _ l i h
theorem rd_ii (l : List S64) (i : Nat) (h : i < l.length) : rd_T64 l (i : Int) = l[i] := getDG _ l i h
theorem rd_lf (l : List S52) (i : Nat) (h : i < l.length) : rd_T52 l (i : Int) = l[i] := getDG _ l i h
theorem rd_if (l : List S44) (i : Nat) (h : i < l.length) : rd_T44 l (i : Int) = l[i] := getDG _ l i h
def budIns (x : S87) : Nat := x.f2.size
def budFn (x : S52) : Nat := x.f0.size + (x.f3.length + sumB budIns x.f3)
def budFns (l : List S52) : Nat := l.length + sumB budFn l
def budPats (l : List S55) : Nat := l.length + P_budLE l
def budCode (x : S25) : Nat := budFns x.f0 + budPats x.f1
def cvIns (x : S87) : S64 := ⟨x.f0, x.f1, x.f2, x.f3⟩
def cvFn (x : S52) : S44 := ⟨x.f0, x.f1, x.f2, x.f3.map cvIns⟩
theorem wfIns_mk {x : S87} (h : wf87 x) : (x.f2.size : Int) ≤ 9223372036854775807 := by
 obtain ⟨a, b, s, c⟩ := x
 unfold wf87 at h
 obtain ⟨_, _, h, _⟩ := h
 unfold maxLen at h
 show (s.size : Int) ≤ _
 omega
theorem wfFn_mk {x : S52} (h : wf52 x) : (x.f0.size : Int) ≤ 9223372036854775807 ∧ (x.f3.length : Int) ≤ 9223372036854775807 ∧ ∀ y ∈ x.f3, wf87 y := by
 obtain ⟨s, b, c, l⟩ := x
 unfold wf52 at h
 obtain ⟨h, _, _, h2, h3⟩ := h
 unfold maxLen at h h2
 exact ⟨by show (s.size : Int) ≤ _; omega, by show (l.length : Int) ≤ _; omega, h3⟩
theorem wfCode_mk {a : List S52} {b : List S55} (h : wf25 ⟨a, b⟩) : (a.length : Int) ≤ 9223372036854775807 ∧ (∀ y ∈ a, wf52 y) ∧ (b.length : Int) ≤ 9223372036854775807 ∧ ∀ y ∈ b, wf55 y := by
 unfold wf25 at h
 obtain ⟨⟨h, h1⟩, h2, h3⟩ := h
 unfold maxLen at h h2
 exact ⟨by omega, h1, by omega, h3⟩
def BytesB (l : List Int) : Prop := ∀ x ∈ l, 0 ≤ x ∧ x < 256
theorem BytesB.at_ {l : List Int} (h : BytesB l) (i : Int) : 0 ≤ rd l i ∧ rd l i < 256 := by
 unfold rd
 rw [List.getD_eq_getElem?_getD]
 by_cases hi : i.toNat < l.length
 ·rw [List.getElem?_eq_getElem hi]; exact h _ (List.getElem_mem hi)
 ·rw [List.getElem?_eq_none (by omega)]; decide
theorem P_sz_loop (l : List S55) (hl : (l.length : Int) ≤ 9223372036854775807)
  (h : ∀ y ∈ l, ∀ left : Int, 0 ≤ left → left ≤ 1048576 → Ev (fun k => laws_szPat.f k y.f0 y.f1 y.f2 y.f3 left) (szRes left (P_budL y))) (d : Nat) :
  ∀ (i : Nat) (left : Int), i + d = l.length → 0 ≤ left → left ≤ 1048576 → Ev (fun k => laws_szPatS.l0 k l left i) (szRes left (P_budLE (l.drop i))) := by
 induction d with
 | zero =>
  intro i left hi h0 h1
  refine Ev.step (f := fun _ => some left) (fun k => ?_) (ev_cast ?_ (Ev.now _))
  ·simp only [laws_szPatS.l0]; rw [if_neg (by omega)]
  ·rw [List.drop_eq_nil_of_le (by omega), P_budLE]; unfold szRes; rw [if_pos (by omega)]; omega
 | succ d ih =>
  intro i left hi h0 h1
  have hlt : i < l.length := by omega
  have e := h _ (P_rdL_mem l i hlt) left h0 h1
  rw [P_dropL l i hlt, P_budLE]
  generalize hy : rd_T55 l i = y at *
  refine Ev.step (f := fun k => (laws_szPat.f k y.f0 y.f1 y.f2 y.f3 left).bind fun t102 => (if t102 < 0 then (some (-1)) else (laws_szPatS.l0 k l t102 (wrap64 ((i : Int) + 1))))) (fun k => ?_) (Ev.bind e ?_)
  ·simp only [laws_szPatS.l0]; rw [if_pos (by omega), if_pos (by omega), hy]
  ·unfold szRes
   by_cases hb : (P_budL y : Int) ≤ left
   ·rw [if_pos hb]
    refine ev_neg (by omega) ?_
    rw [w64 _ (by omega) (by omega)]
    refine ev_cast ?_ (ih (i + 1) (left - P_budL y) (by omega) (by omega) (by omega))
    unfold szRes
    by_cases hc : (P_budLE (l.drop (i + 1)) : Int) ≤ left - P_budL y
    ·rw [if_pos hc, if_pos (by omega)]; omega
    ·rw [if_neg hc, if_neg (by omega)]
   ·rw [if_neg hb, if_neg (by omega)]
    exact ev_pos (by omega) (Ev.now _)
theorem P_szS_of (l : List S55) (hl : (l.length : Int) ≤ 9223372036854775807)
  (h : ∀ y ∈ l, ∀ left : Int, 0 ≤ left → left ≤ 1048576 → Ev (fun k => laws_szPat.f k y.f0 y.f1 y.f2 y.f3 left) (szRes left (P_budL y))) (left : Int) (h0 : 0 ≤ left) (h1 : left ≤ 1048576) :
  Ev (fun k => laws_szPatS.f k l left) (szRes left (l.length + P_budLE l)) := by
 by_cases hc : left - (l.length : Int) < 0
 ·refine Ev.step (f := fun _ => some (-1)) (fun k => ?_) (ev_cast ?_ (Ev.now _))
  ·simp only [laws_szPatS.f]; rw [w64 _ (by omega) (by omega), if_pos hc]
  ·unfold szRes; rw [if_neg (by omega)]
 ·refine Ev.step (fun k => ?_) (ev_cast ?_ (P_sz_loop l hl h l.length 0 (left - l.length) (by omega) (by omega) (by omega)))
  ·simp only [laws_szPatS.f]; rw [w64 _ (by omega) (by omega), if_neg hc]; rfl
  ·rw [List.drop_zero]
   unfold szRes
   by_cases hb : (P_budLE l : Int) ≤ left - l.length
   ·rw [if_pos hb, if_pos (by omega)]; omega
   ·rw [if_neg hb, if_neg (by omega)]
theorem P_sz_all : ∀ x, wf55 x → ∀ left : Int, 0 ≤ left → left ≤ 1048576 → Ev (fun k => laws_szPat.f k x.f0 x.f1 x.f2 x.f3 left) (szRes left (P_budL x)) := by
 refine P_indL ?_
 intro a b s l ih hw left h0 h1
 obtain ⟨_, _, hs, hl, hm⟩ := P_wfL_mk hw
 simp only []
 by_cases hc : left - (s.size : Int) < 0
 ·refine Ev.step (f := fun _ => some (-1)) (fun k => ?_) (ev_cast ?_ (Ev.now _))
  ·simp only [laws_szPat.f]; rw [w64 _ (by omega) (by omega), if_pos hc]
  ·rw [P_budL]; unfold szRes; rw [if_neg (by omega)]
 ·have e := P_szS_of l hl (fun y hy => ih y hy (hm y hy)) (left - s.size) (by omega) (by omega)
  refine Ev.step (f := fun k => (laws_szPatS.f k l (left - (s.size : Int))).bind fun t104 => (if t104 < 0 then (some (-1)) else (some t104))) (fun k => ?_) (Ev.bind e ?_)
  ·simp only [laws_szPat.f]; rw [w64 _ (by omega) (by omega), if_neg hc]
  ·rw [P_budL]
   unfold szRes
   by_cases hb : ((l.length + P_budLE l : Nat) : Int) ≤ left - s.size
   ·have hb2 : ((s.size + (l.length + P_budLE l) : Nat) : Int) ≤ left := by omega
    rw [if_pos hb, if_pos hb2]
    exact ev_neg (by omega) (ev_cast (by omega) (Ev.now _))
   ·have hb2 : ¬ ((s.size + (l.length + P_budLE l) : Nat) : Int) ≤ left := by omega
    rw [if_neg hb, if_neg hb2]
    exact ev_pos (by omega) (Ev.now _)
theorem szIns_eq (x : S87) (hw : wf87 x) (left : Int) (h0 : 0 ≤ left) (h1 : left ≤ 1048576) : laws_szIns.f x.f0 x.f1 x.f2 x.f3 left = some (szRes left (budIns x)) := by
 have := wfIns_mk hw
 unfold laws_szIns.f szRes budIns
 rw [w64 _ (by omega) (by omega)]
 by_cases hc : left - (x.f2.size : Int) < 0
 ·rw [if_pos hc, if_neg (by omega)]
 ·rw [if_neg hc, if_pos (by omega)]
theorem szInsS_ev (l : List S87) (hl : (l.length : Int) ≤ 9223372036854775807) (hw : ∀ y ∈ l, wf87 y) (left : Int) (h0 : 0 ≤ left) (h1 : left ≤ 1048576) :
  Ev (fun k => laws_szInsS.f k l left) (szRes left (l.length + sumB budIns l)) := by
 unfold laws_szInsS.f
 rw [w64 _ (by omega) (by omega)]
 by_cases hc : left - (l.length : Int) < 0
 ·refine ev_pos hc (ev_cast ?_ (Ev.now _))
  unfold szRes; rw [if_neg (by omega)]
 ·refine ev_neg hc (ev_cast ?_ (sz_loopG (fun k left i => laws_szInsS.l0 k l left i) budIns l ?_ ?_ l.length 0 (left - l.length) (by omega) (by omega) (by omega)))
  ·rw [List.drop_zero]
   unfold szRes
   by_cases hb : (sumB budIns l : Int) ≤ left - l.length
   ·rw [if_pos hb, if_pos (by omega)]; omega
   ·rw [if_neg hb, if_neg (by omega)]
  ·intro i h left r q0 q1 hr hn
   have e := szIns_eq l[i] (hw _ (List.getElem_mem h)) left q0 q1
   by_cases hb : (budIns l[i] : Int) ≤ left
   ·refine Ev.step (fun k => ?_) (hr hb)
    simp only [laws_szInsS.l0]
    rw [if_pos (by omega), if_pos (by omega), rd_li l i h, e]
    simp only [Option.bind_some]
    unfold szRes
    rw [if_pos hb, if_neg (by omega), w64 _ (by omega) (by omega)]
    rfl
   ·refine Ev.step (f := fun _ => some (-1)) (fun k => ?_) (ev_cast (hn hb).symm (Ev.now _))
    simp only [laws_szInsS.l0]
    rw [if_pos (by omega), if_pos (by omega), rd_li l i h, e]
    simp only [Option.bind_some]
    unfold szRes
    rw [if_neg hb, if_pos (by omega)]
  ·intro left
   refine Ev.step (f := fun _ => some left) (fun k => ?_) (Ev.now _)
   simp only [laws_szInsS.l0]; rw [if_neg (by omega)]
theorem szFn_ev (x : S52) (hw : wf52 x) (left : Int) (h0 : 0 ≤ left) (h1 : left ≤ 1048576) : Ev (fun k => laws_szFn.f k x.f0 x.f1 x.f2 x.f3 left) (szRes left (budFn x)) := by
 obtain ⟨w1, w2, w3⟩ := wfFn_mk hw
 unfold laws_szFn.f budFn
 rw [w64 _ (by omega) (by omega)]
 by_cases hc : left - (x.f0.size : Int) < 0
 ·refine ev_pos hc (ev_cast ?_ (Ev.now _))
  unfold szRes; rw [if_neg (by omega)]
 ·refine ev_neg hc (Ev.bind (szInsS_ev x.f3 w2 w3 (left - x.f0.size) (by omega) (by omega)) ?_)
  unfold szRes
  by_cases hb : ((x.f3.length + sumB budIns x.f3 : Nat) : Int) ≤ left - x.f0.size
  ·rw [if_pos hb]
   refine ev_neg (by omega) (ev_cast ?_ (Ev.now _))
   rw [if_pos (by omega)]; omega
  ·rw [if_neg hb]
   refine ev_pos (by omega) (ev_cast ?_ (Ev.now _))
   rw [if_neg (by omega)]
theorem szFnS_ev (l : List S52) (hl : (l.length : Int) ≤ 9223372036854775807) (hw : ∀ y ∈ l, wf52 y) (left : Int) (h0 : 0 ≤ left) (h1 : left ≤ 1048576) :
  Ev (fun k => laws_szFnS.f k l left) (szRes left (budFns l)) := by
 unfold laws_szFnS.f budFns
 rw [w64 _ (by omega) (by omega)]
 by_cases hc : left - (l.length : Int) < 0
 ·refine ev_pos hc (ev_cast ?_ (Ev.now _))
  unfold szRes; rw [if_neg (by omega)]
 ·refine ev_neg hc (ev_cast ?_ (sz_loopG (fun k left i => laws_szFnS.l0 k l left i) budFn l ?_ ?_ l.length 0 (left - l.length) (by omega) (by omega) (by omega)))
  ·rw [List.drop_zero]
   unfold szRes
   by_cases hb : (sumB budFn l : Int) ≤ left - l.length
   ·rw [if_pos hb, if_pos (by omega)]; omega
   ·rw [if_neg hb, if_neg (by omega)]
  ·intro i h left r q0 q1 hr hn
   have e := szFn_ev l[i] (hw _ (List.getElem_mem h)) left q0 q1
   refine Ev.step (f := fun k => (laws_szFn.f k l[i].f0 l[i].f1 l[i].f2 l[i].f3 left).bind fun t107 => (if t107 < 0 then (some (-1)) else (laws_szFnS.l0 k l t107 (wrap64 ((i : Int) + 1))))) (fun k => ?_) (Ev.bind e ?_)
   ·simp only [laws_szFnS.l0]
    rw [if_pos (by omega), if_pos (by omega), rd_lf l i h]
   ·rw [w64 _ (by omega) (by omega)]
    unfold szRes
    by_cases hb : (budFn l[i] : Int) ≤ left
    ·rw [if_pos hb]; exact ev_neg (by omega) (hr hb)
    ·rw [if_neg hb]; exact ev_pos (by omega) (ev_cast (hn hb).symm (Ev.now _))
  ·intro left
   refine Ev.step (f := fun _ => some left) (fun k => ?_) (Ev.now _)
   simp only [laws_szFnS.l0]; rw [if_neg (by omega)]
theorem szCode_ev (a : List S52) (b : List S55) (hw : wf25 ⟨a, b⟩) (left : Int) (h0 : 0 ≤ left) (h1 : left ≤ 1048576) :
  Ev (fun k => laws_szCode.f k a b left) (szRes left (budCode ⟨a, b⟩)) := by
 obtain ⟨w1, w2, w3, w4⟩ := wfCode_mk hw
 unfold laws_szCode.f budCode
 refine Ev.bind (szFnS_ev a w1 w2 left h0 h1) ?_
 unfold szRes
 by_cases hb : (budFns a : Int) ≤ left
 ·rw [if_pos hb]
  refine ev_neg (by omega) (Ev.bind (P_szS_of b w3 (fun y hy => P_sz_all y (w4 y hy)) (left - budFns a) (by omega) (by omega)) ?_)
  unfold szRes
  have hbp : budPats b = b.length + P_budLE b := rfl
  by_cases hb2 : ((b.length + P_budLE b : Nat) : Int) ≤ left - budFns a
  ·rw [if_pos hb2]
   refine ev_neg (by omega) (ev_cast ?_ (Ev.now _))
   rw [if_pos (by show ((budFns a + budPats b : Nat) : Int) ≤ left; omega)]
   show _ = left - ((budFns a + budPats b : Nat) : Int)
   omega
  ·rw [if_neg hb2]
   refine ev_pos (by omega) (ev_cast ?_ (Ev.now _))
   rw [if_neg (by show ¬ ((budFns a + budPats b : Nat) : Int) ≤ left; omega)]
 ·rw [if_neg hb]
  refine ev_pos (by omega) (ev_cast ?_ (Ev.now _))
  rw [if_neg (by show ¬ ((budFns a + budPats b : Nat) : Int) ≤ left; omega)]
theorem P_set_takeI (l : List S67) (i : Nat) (v : S67) (h : i < l.length) : (l.set i v).take (i + 1) = l.take i ++ [v] := by
 rw [List.take_succ_eq_append_getElem (by simpa using h)]
 simp [List.take_set]
 rw [List.set_eq_of_length_le (by simp; omega)]
theorem P_to_loop (l : List S55) (hl : (l.length : Int) ≤ 1048576)
  (h : ∀ y ∈ l, Ev (fun k => laws_toPat.f k y.f0 y.f1 y.f2 y.f3) (y.f0, y.f1, y.f2, P_cvL y.f3)) (d : Nat) :
  ∀ (i : Nat) (x : List S67), i + d = l.length → x.length = l.length → x.take i = (P_cvL l).take i → Ev (fun k => laws_toPatS.l0 k l x i) (P_cvL l) := by
 induction d with
 | zero =>
  intro i x hi hx ht
  refine Ev.step (f := fun _ => some x) (fun k => ?_) (ev_cast ?_ (Ev.now _))
  ·simp only [laws_toPatS.l0]; rw [if_neg (by omega)]
  ·rwa [List.take_of_length_le (by omega), List.take_of_length_le (by rw [P_cvL_len]; omega)] at ht
 | succ d ih =>
  intro i x hi hx ht
  have hlt : i < l.length := by omega
  have e := h _ (P_rdL_mem l i hlt)
  have hn := ih (i + 1) (x.set i (P_cv (rd_T55 l i))) (by omega) (by simpa using hx) (by
   rw [P_set_takeI _ _ _ (by omega), ht, List.take_succ_eq_append_getElem (by rw [P_cvL_len]; omega)]
   congr 1
   simp only [P_cvL_map, List.getElem_map]
   unfold rd_T55
   simp [List.getElem?_eq_getElem hlt])
  generalize hy : rd_T55 l i = y at *
  refine Ev.step (f := fun k => (laws_toPat.f k y.f0 y.f1 y.f2 y.f3).bind fun bt112 => (laws_toPatS.l0 k l (x.set i (⟨bt112.1, bt112.2.1, bt112.2.2.1, bt112.2.2.2⟩ : S67)) (wrap64 ((i : Int) + 1)))) (fun k => ?_) (Ev.bind e ?_)
  ·simp only [laws_toPatS.l0]; rw [if_pos (by omega), if_pos (by omega), hy]
   congr 1
   funext bt
   rw [if_pos (by omega)]
   rfl
  ·rw [w64 _ (by omega) (by omega)]
   have ec : (⟨y.f0, y.f1, y.f2, P_cvL y.f3⟩ : S67) = P_cv y := by cases y; rw [P_cv]
   simp only [ec]
   exact hn
theorem P_toS_of (l : List S55) (hl : (l.length : Int) ≤ 1048576)
  (h : ∀ y ∈ l, Ev (fun k => laws_toPat.f k y.f0 y.f1 y.f2 y.f3) (y.f0, y.f1, y.f2, P_cvL y.f3)) : Ev (fun k => laws_toPatS.f k l) (P_cvL l) := by
 refine Ev.step (fun k => ?_) (P_to_loop l hl h l.length 0 (List.replicate l.length z67) (by omega) (by simp) (by simp))
 simp only [laws_toPatS.f]; rw [if_pos (by omega), if_pos (by omega)]
 simp
theorem P_budL_mem : ∀ (l : List S55) (x : S55), x ∈ l → P_budL x ≤ P_budLE l
 | [], x, h => by cases h
 | y :: r, x, h => by
  rw [P_budLE]
  rcases List.mem_cons.1 h with rfl | h
  ·omega
  ·have := P_budL_mem r x h; omega
theorem P_to_all : ∀ x, (P_budL x : Int) ≤ 1048576 → Ev (fun k => laws_toPat.f k x.f0 x.f1 x.f2 x.f3) (x.f0, x.f1, x.f2, P_cvL x.f3) := by
 refine P_indL ?_
 intro a b s l ih hb
 rw [P_budL] at hb
 refine Ev.step (f := fun k => (laws_toPatS.f k l).bind fun t122 => (some (a, b, s, t122))) (fun k => ?_) (Ev.bind (P_toS_of l (by omega) (fun y hy => ih y hy (by have := P_budL_mem l y hy; omega))) (Ev.now _))
 simp only [laws_toPat.f]
theorem toIns_eq (x : S87) : laws_toIns.f x.f0 x.f1 x.f2 x.f3 = some (x.f0, x.f1, x.f2, x.f3) := rfl
theorem toInsS_ev (l : List S87) (hl : (l.length : Int) ≤ 1048576) : Ev (fun k => laws_toInsS.f k l) (l.map cvIns) := by
 unfold laws_toInsS.f
 refine ev_pos (by omega) (ev_pos (by omega) ?_)
 rw [Int.toNat_natCast]
 refine map_loop0 (fun k x i => laws_toInsS.l0 k l x i) cvIns l _ ?_ ?_
 ·intro i h x r hx e
  refine Ev.step (fun k => ?_) e
  simp only [laws_toInsS.l0]
  rw [if_pos (by omega), if_pos (by omega), rd_li l i h, toIns_eq]
  simp only [Option.bind_some]
  rw [if_pos (by omega), w64 _ (by omega) (by omega), Int.toNat_natCast]
  rfl
 ·intro x hx
  refine Ev.step (f := fun _ => some x) (fun k => ?_) (Ev.now _)
  simp only [laws_toInsS.l0]; rw [if_neg (by omega)]
theorem toFn_ev (x : S52) (hl : (x.f3.length : Int) ≤ 1048576) : Ev (fun k => laws_toFn.f k x.f0 x.f1 x.f2 x.f3) (x.f0, x.f1, x.f2, x.f3.map cvIns) := by
 unfold laws_toFn.f
 exact Ev.bind (toInsS_ev x.f3 hl) (Ev.now _)
theorem toFnS_ev (l : List S52) (hl : (budFns l : Int) ≤ 1048576) : Ev (fun k => laws_toFnS.f k l) (l.map cvFn) := by
 unfold budFns at hl
 unfold laws_toFnS.f
 refine ev_pos (by omega) (ev_pos (by omega) ?_)
 rw [Int.toNat_natCast]
 refine map_loop0 (fun k x i => laws_toFnS.l0 k l x i) cvFn l _ ?_ ?_
 ·intro i h x r hx e
  have hm := sumB_mem budFn l _ (List.getElem_mem h)
  have hb : budFn l[i] = l[i].f0.size + (l[i].f3.length + sumB budIns l[i].f3) := rfl
  refine Ev.step (f := fun k => (laws_toFn.f k l[i].f0 l[i].f1 l[i].f2 l[i].f3).bind fun bt137 => (if (i : Int) < (x.length : Int) then (laws_toFnS.l0 k l (x.set ((i : Int)).toNat (⟨bt137.1, bt137.2.1, bt137.2.2.1, bt137.2.2.2⟩ : S44)) (wrap64 ((i : Int) + 1))) else none)) (fun k => ?_) (Ev.bind (toFn_ev l[i] (by omega)) (ev_pos (by omega) ?_))
  ·simp only [laws_toFnS.l0]
   rw [if_pos (by omega), if_pos (by omega), rd_lf l i h]
  ·rw [w64 _ (by omega) (by omega), Int.toNat_natCast]
   exact e
 ·intro x hx
  refine Ev.step (f := fun _ => some x) (fun k => ?_) (Ev.now _)
  simp only [laws_toFnS.l0]; rw [if_neg (by omega)]
theorem toCode_ev (a : List S52) (b : List S55) (hb : (budCode ⟨a, b⟩ : Int) ≤ 1048576) : Ev (fun k => laws_toCode.f k a b) (a.map cvFn, P_cvL b) := by
 unfold budCode budPats at hb
 simp only [] at hb
 unfold laws_toCode.f
 exact Ev.bind (toFnS_ev a (by omega)) (Ev.bind (P_toS_of b (by omega) (fun y hy => P_to_all y (by have := P_budL_mem b y hy; omega))) (Ev.now _))
theorem P_eq_loop (l : List S67) (hl : (l.length : Int) ≤ 4194304)
  (h : ∀ y ∈ l, Ev (fun k => laws_eqPat.f k y.f0 y.f1 y.f2 y.f3 y.f0 y.f1 y.f2 y.f3) true) (d : Nat) : ∀ (i : Nat), i + d = l.length → Ev (fun k => laws_eqPatS.l0 k l l i) true := by
 induction d with
 | zero =>
  intro i hi
  refine Ev.step (f := fun _ => some true) (fun k => ?_) (Ev.now _)
  simp only [laws_eqPatS.l0]; rw [if_neg (by omega)]
 | succ d ih =>
  intro i hi
  have hlt : i < l.length := by omega
  have e := h _ (P_rdI_mem l i hlt)
  have hn := ih (i + 1) (by omega)
  generalize hy : rd_T67 l i = y at *
  refine Ev.step (f := fun k => (laws_eqPat.f k y.f0 y.f1 y.f2 y.f3 y.f0 y.f1 y.f2 y.f3).bind fun t131 => (if t131 = true then (laws_eqPatS.l0 k l l (wrap64 ((i : Int) + 1))) else (some false))) (fun k => ?_) (Ev.bind e (ev_pos rfl ?_))
  ·simp only [laws_eqPatS.l0]; rw [if_pos (by omega), if_pos (by omega), if_pos (by omega), hy]
  ·rw [w64 _ (by omega) (by omega)]; exact hn
theorem P_eqS_of (l : List S67) (hl : (l.length : Int) ≤ 4194304) (h : ∀ y ∈ l, Ev (fun k => laws_eqPat.f k y.f0 y.f1 y.f2 y.f3 y.f0 y.f1 y.f2 y.f3) true) : Ev (fun k => laws_eqPatS.f k l l) true := by
 refine Ev.step (fun k => ?_) (P_eq_loop l hl h l.length 0 (by omega))
 simp only [laws_eqPatS.f]; rw [if_pos trivial]; rfl
theorem P_eq_all : ∀ x, (P_budI x : Int) ≤ 4194304 → Ev (fun k => laws_eqPat.f k x.f0 x.f1 x.f2 x.f3 x.f0 x.f1 x.f2 x.f3) true := by
 refine P_indI ?_
 intro a b s l ih hb
 rw [P_budI] at hb
 have hl := P_budIL_len l
 refine Ev.step (f := fun k => (laws_eqPatS.f k l l).bind fun t134 => (if t134 = true then (some true) else (some false))) (fun k => ?_) (Ev.bind (P_eqS_of l (by omega) (fun y hy => ih y hy (by have := P_budI_mem l y hy; omega))) (ev_pos rfl (Ev.now _)))
 simp only [laws_eqPat.f]
 simp
theorem P_eqTermS_ev (l : List S67) (hb : (P_budIL l : Int) ≤ 4194304) : Ev (fun k => laws_eqPatS.f k l l) true := by
 have hl := P_budIL_len l
 exact P_eqS_of l (by omega) (fun y hy => P_eq_all y (by have := P_budI_mem l y hy; omega))
theorem eqIns_eq (x : S64) : laws_eqIns.f x.f0 x.f1 x.f2 x.f3 x.f0 x.f1 x.f2 x.f3 = some true := by
 unfold laws_eqIns.f; simp
theorem eqInsS_ev (l : List S64) (hl : (l.length : Int) ≤ 4194304) : Ev (fun k => laws_eqInsS.f k l l) true := by
 unfold laws_eqInsS.f
 refine ev_pos rfl (ev_cast ?_ (all_loop (fun k i => laws_eqInsS.l0 k l l i) (fun _ => true) l.length ?_ ?_ l.length 0 (by omega)))
 ·unfold allFrom; simp
 ·intro i h r hr _
  refine Ev.step (fun k => ?_) (hr rfl)
  simp only [laws_eqInsS.l0]
  rw [if_pos (by omega), if_pos (by omega), if_pos (by omega), rd_ii l i h, eqIns_eq, w64 _ (by omega) (by omega)]
  rfl
 ·refine Ev.step (f := fun _ => some true) (fun k => ?_) (Ev.now _)
  simp only [laws_eqInsS.l0]; rw [if_neg (by omega)]
theorem eqFn_ev (x : S44) (hl : (x.f3.length : Int) ≤ 4194304) : Ev (fun k => laws_eqFn.f k x.f0 x.f1 x.f2 x.f3 x.f0 x.f1 x.f2 x.f3) true := by
 unfold laws_eqFn.f
 exact ev_pos rfl (ev_pos rfl (ev_pos rfl (Ev.bind (eqInsS_ev x.f3 hl) (ev_pos rfl (Ev.now _)))))
theorem eqFnS_ev (l : List S44) (hl : (l.length : Int) ≤ 4194304) (hm : ∀ y ∈ l, (y.f3.length : Int) ≤ 4194304) : Ev (fun k => laws_eqFnS.f k l l) true := by
 unfold laws_eqFnS.f
 refine ev_pos rfl (ev_cast ?_ (all_loop (fun k i => laws_eqFnS.l0 k l l i) (fun _ => true) l.length ?_ ?_ l.length 0 (by omega)))
 ·unfold allFrom; simp
 ·intro i h r hr _
  refine Ev.step (f := fun k => (laws_eqFn.f k l[i].f0 l[i].f1 l[i].f2 l[i].f3 l[i].f0 l[i].f1 l[i].f2 l[i].f3).bind fun t180 => (if t180 = true then (laws_eqFnS.l0 k l l (wrap64 ((i : Int) + 1))) else (some false))) (fun k => ?_) (Ev.bind (eqFn_ev l[i] (hm _ (List.getElem_mem h))) (ev_pos rfl ?_))
  ·simp only [laws_eqFnS.l0]
   rw [if_pos (by omega), if_pos (by omega), if_pos (by omega), rd_if l i h]
  ·rw [w64 _ (by omega) (by omega)]; exact hr rfl
 ·refine Ev.step (f := fun _ => some true) (fun k => ?_) (Ev.now _)
  simp only [laws_eqFnS.l0]; rw [if_neg (by omega)]
theorem eqCode_ev (a : List S44) (b : List S67) (h0 : (a.length : Int) ≤ 4194304) (h1 : ∀ y ∈ a, (y.f3.length : Int) ≤ 4194304) (h2 : (P_budIL b : Int) ≤ 4194304) : Ev (fun k => laws_eqCode.f k a b a b) true := by
 unfold laws_eqCode.f
 exact Ev.bind (eqFnS_ev a h0 h1) (ev_pos rfl (Ev.bind (P_eqTermS_ev b h2) (ev_pos rfl (Ev.now _))))
theorem code_bounds (a : List S52) (b : List S55) (hb : (budCode ⟨a, b⟩ : Int) ≤ 1048576) : ((a.map cvFn).length : Int) ≤ 1048576 ∧ (∀ y ∈ a.map cvFn, (y.f3.length : Int) ≤ 1048576) ∧ (P_budIL (P_cvL b) : Int) ≤ 1048576 := by
 unfold budCode budPats budFns at hb
 simp only [] at hb
 refine ⟨by rw [List.length_map]; omega, ?_, by rw [P_bud_cvL]; omega⟩
 intro y hy
 obtain ⟨x, hx, rfl⟩ := List.mem_map.1 hy
 have := sumB_mem budFn a x hx
 have hq : budFn x = x.f0.size + (x.f3.length + sumB budIns x.f3) := rfl
 unfold cvFn
 simp only [List.length_map]
 omega
theorem rdN (l : List Int) (i : Nat) (h : i < l.length) : rd l (i : Int) = l[i] := by
 unfold rd
 simp [List.getD_eq_getElem?_getD, List.getElem?_eq_getElem h]
theorem nd_app (l : List Int) (s : Int) : (l ++ [s]).Nodup ↔ l.Nodup ∧ ¬ s ∈ l := by
 rw [List.nodup_append]
 constructor
 ·intro h
  exact ⟨h.1, fun hm => h.2.2 _ hm _ (by simp) rfl⟩
 ·intro h
  refine ⟨h.1, by simp, fun a ha b hb e => ?_⟩
  simp at hb
  subst hb
  exact h.2 (e ▸ ha)
theorem nd_left {l m : List Int} (h : (l ++ m).Nodup) : l.Nodup := (List.nodup_append.1 h).1
theorem evT {α : Type} {c : Prop} [Decidable c] {A B : Nat → Option α} {r s : α} (h : c) (e : Ev A r) : Ev (fun k => if c then A k else B k) (if c then r else s) := ev_cast (if_pos h).symm (ev_pos h e)
theorem evF {α : Type} {c : Prop} [Decidable c] {A B : Nat → Option α} {r s : α} (h : ¬ c) (e : Ev B s) : Ev (fun k => if c then A k else B k) (if c then r else s) := ev_cast (if_neg h).symm (ev_neg h e)
def fwdM (at_ : Int) (x : S64) : Bool := if x.f0 = 9 ∨ x.f0 = 10 then decide (at_ + 1 ≤ x.f3) else true
def takesM (x : S64) : Int := if x.f0 = 4 ∨ x.f0 = 5 ∨ x.f0 = 6 ∨ x.f0 = 8 then x.f1 else if x.f0 = 7 then 2 else if x.f0 = 9 ∨ x.f0 = 12 then 1 else 0
def leavM (x : S64) : Int := if 1 ≤ x.f0 ∧ x.f0 ≤ 8 then 1 else 0
theorem rd_set (l : List Int) (i : Nat) (v : Int) (j : Nat) (hi : i < l.length) : rd (l.set i v) (j : Int) = if i = j then v else rd l (j : Int) := by
 unfold rd
 rw [Int.toNat_natCast, List.getD_eq_getElem?_getD, List.getD_eq_getElem?_getD, List.getElem?_set]
 by_cases h : i = j
 ·subst h; simp [hi]
 ·simp [h]
theorem fnAt_l (c : List S44) (p : List S67) (hl : (c.length : Int) ≤ 4194304) (a : ByteArray) (d : Nat) : ∀ (i : Nat), i + d = c.length → Ev (fun k => spec_l9FnAt.l0 k a i c p) (impl_fnAt.ix (c.drop i) a i) := by
 induction d with
 | zero =>
  intro i hi
  rw [List.drop_eq_nil_of_le (by omega), impl_fnAt.ix]
  refine Ev.step (f := fun _ => some (-1)) (fun k => ?_) (Ev.now _)
  simp only [spec_l9FnAt.l0]; rw [if_neg (by omega)]
 | succ d ih =>
  intro i hi
  have hlt : i < c.length := by omega
  rw [List.drop_eq_getElem_cons hlt, impl_fnAt.ix]
  by_cases h : c[i].f0.toList = a.toList
  ·rw [if_pos h]
   refine Ev.step (f := fun _ => some (i : Int)) (fun k => ?_) (Ev.now _)
   simp only [spec_l9FnAt.l0]; rw [if_pos (by omega), if_pos (by omega), rd_if c i hlt, if_pos h]
  ·rw [if_neg h]
   refine Ev.step (fun k => ?_) (ih (i + 1) (by omega))
   simp only [spec_l9FnAt.l0]; rw [if_pos (by omega), if_pos (by omega), rd_if c i hlt, if_neg h, w64 _ (by omega) (by omega)]
   rfl
theorem fnAt_ev (c : List S44) (p : List S67) (hl : (c.length : Int) ≤ 4194304) (a : ByteArray) : Ev (fun k => spec_l9FnAt.f k c p a) (impl_fnAt.ix c a 0) := by
 unfold spec_l9FnAt.f
 exact fnAt_l c p hl a c.length 0 (by omega)
theorem impl_fnAt_eq (c : List S44) (p : List S67) (hl : (c.length : Int) ≤ 4194304) (a : ByteArray) : impl_fnAt.f [(⟨c, p⟩ : S31)] a = some (impl_fnAt.ix c a 0) := by
 unfold impl_fnAt.f impl_fnAt.f0
 rw [if_pos (by simp)]
 show (if c.length ≤ 9223372036854775807 then some (impl_fnAt.ix c a 0) else none) = _
 rw [if_pos (by omega)]
theorem ix_rng (a : ByteArray) : ∀ (l : List S44) (i : Int), impl_fnAt.ix l a i = -1 ∨ (i ≤ impl_fnAt.ix l a i ∧ impl_fnAt.ix l a i < i + l.length)
 | [], i => .inl (by rw [impl_fnAt.ix])
 | x :: r, i => by
  rw [impl_fnAt.ix]
  by_cases h : x.f0.toList = a.toList
  ·rw [if_pos h]; exact .inr ⟨by omega, by rw [List.length_cons]; omega⟩
  ·rw [if_neg h, List.length_cons]
   rcases ix_rng a r (i + 1) with h | h
   ·exact .inl h
   ·exact .inr ⟨by omega, by omega⟩
def lowB (c : Int) : Bool := decide (97 ≤ c) && decide (c ≤ 122)
def digB (c : Int) : Bool := decide (48 ≤ c) && decide (c ≤ 57)
def atomFrom (s : ByteArray) (i : Nat) : Bool := (List.range' i (s.size - i)).all fun j => lowB (bt s j) || (!decide (j = 0) && (digB (bt s j) || decide (bt s j = 95)))
def atomOkM (s : ByteArray) : Bool := atomFrom s 0 && (decide (1 ≤ (s.size : Int)) && decide ((s.size : Int) ≤ 20))
theorem atomFrom_end (s : ByteArray) (i : Nat) (h : s.size ≤ i) : atomFrom s i = true := by
 unfold atomFrom
 rw [Nat.sub_eq_zero_of_le h]; rfl
theorem atomFrom_step (s : ByteArray) (i : Nat) (h : i < s.size) : atomFrom s i = ((lowB (bt s i) || (!decide (i = 0) && (digB (bt s i) || decide (bt s i = 95)))) && atomFrom s (i + 1)) := by
 unfold atomFrom
 obtain ⟨n, hn⟩ : ∃ n, s.size - i = n + 1 := ⟨s.size - i - 1, by omega⟩
 rw [hn, show s.size - (i + 1) = n from by omega, List.range'_succ]
 simp [List.all_cons]
theorem wbt (s : ByteArray) (i : Int) : wrap64 (bt s i) = bt s i := by
 have := bt_range s i
 exact w64 _ (by omega) (by omega)
theorem ev_and {c : Bool} {A : Nat → Option Bool} {r : Bool} (e : Ev A r) : Ev (fun k => if c = true then A k else some false) (c && r) := by
 cases c with
 | false => exact ev_neg (by decide) (Ev.now _)
 | true => exact ev_pos rfl e
theorem ev_andP {c : Prop} [Decidable c] {A : Nat → Option Bool} {r : Bool} (e : Ev A r) : Ev (fun k => if c then A k else some false) (decide c && r) := by
 by_cases h : c
 ·rw [decide_eq_true h]; exact ev_pos h e
 ·rw [decide_eq_false h]; exact ev_neg h (Ev.now _)
theorem len0B (n : Nat) : ((n : Int) == 0) = decide (n = 0) := by by_cases h : n = 0 <;> simp [h]
theorem len2B (n : Nat) : ((n : Int) == 2) = decide (n = 2) := by
 by_cases h : n = 2
 ·simp [h]
 ·rw [decide_eq_false h, beq_eq_false_iff_ne]; omega
theorem len1B (n : Nat) : ((n : Int) == 1) = decide (n = 1) := by
 by_cases h : n = 1
 ·simp [h]
 ·rw [decide_eq_false h, beq_eq_false_iff_ne]; omega
def resL (l : List UInt8) : Bool := decide (l = [99, 97, 115, 101]) || (decide (l = [111, 102]) || decide (l = [101, 110, 100]))
def xatomM (s : ByteArray) : Bool := atomOkM s && !(resL s.toList)
def opL (l : List UInt8) : Bool := decide (l = [43]) || (decide (l = [45]) || (decide (l = [42]) || (decide (l = [61, 61]) || decide (l = [60]))))
def largeB (c : Int) : Bool := (decide (65 ≤ c) && decide (c ≤ 90)) || decide (c = 95)
def varP (s : ByteArray) (i : Nat) : Bool := largeB (bt s i) || (!decide (i = 0) && (lowB (bt s i) || digB (bt s i)))
def varQ (s : ByteArray) (i : Nat) : Bool := lowB (bt s i) || (largeB (bt s i) || digB (bt s i))
def in20 (s : ByteArray) : Bool := decide (1 ≤ (s.size : Int)) && decide ((s.size : Int) ≤ 20)
def varOkM (s : ByteArray) : Bool := allFrom (varP s) 0 s.size && in20 s
theorem allFrom_iff (p : Nat → Bool) (n : Nat) : allFrom p 0 n = true ↔ ∀ i, i < n → p i = true := by
 unfold allFrom
 rw [List.all_eq_true]
 constructor
 ·intro h i hi
  exact h i (by rw [List.mem_range'_1]; omega)
 ·intro h i hi
  rw [List.mem_range'_1] at hi
  exact h i (by omega)
theorem varOk_same (s : ByteArray) : (allFrom (varQ s) 0 s.size && (in20 s && largeB (bt s 0))) = varOkM s := by
 unfold varOkM
 cases hn : in20 s with
 | false => simp
 | true =>
  rw [Bool.true_and, Bool.and_true, Bool.eq_iff_iff, Bool.and_eq_true, allFrom_iff, allFrom_iff]
  unfold in20 at hn
  rw [Bool.and_eq_true, decide_eq_true_eq, decide_eq_true_eq] at hn
  constructor
  ·rintro ⟨h, h0⟩ i hi
   have := h i hi
   unfold varQ at this
   unfold varP
   by_cases hz : i = 0
   ·subst hz
    rw [show ((0 : Nat) : Int) = 0 from rfl, h0]; rfl
   ·rw [decide_eq_false hz]
    revert this
    cases lowB (bt s i) <;> cases largeB (bt s i) <;> cases digB (bt s i) <;> simp
  ·intro h
   refine ⟨fun i hi => ?_, ?_⟩
   ·have := h i hi
    unfold varP at this
    unfold varQ
    revert this
    cases lowB (bt s i) <;> cases largeB (bt s i) <;> cases digB (bt s i) <;> simp
   ·have := h 0 (by omega)
    unfold varP at this
    simpa using this
theorem all_loopB (L : Nat → Int → Option Bool) (p : Nat → Bool) (n : Nat) (b : Bool)
  (hstep : ∀ (i : Nat), i < n → ∀ r, (p i = true → Ev (fun k => L k ((i + 1 : Nat) : Int)) r) → (p i = false → r = false) → Ev (fun k => L k (i : Int)) r)
  (hend : Ev (fun k => L k (n : Int)) b) (d : Nat) : ∀ i : Nat, i + d = n → Ev (fun k => L k (i : Int)) (allFrom p i d && b) := by
 induction d with
 | zero =>
  intro i hi
  have e : i = n := by omega
  subst e
  exact ev_cast (by unfold allFrom; simp) hend
 | succ d ih =>
  intro i hi
  refine hstep i (by omega) _ (fun hp => ?_) (fun hp => ?_)
  ·refine ev_cast ?_ (ih (i + 1) (by omega))
   unfold allFrom
   rw [List.range'_succ, List.all_cons, hp, Bool.true_and]
  ·unfold allFrom
   rw [List.range'_succ, List.all_cons, hp, Bool.false_and, Bool.false_and]
def noT (s : ByteArray) : Bool := decide (s.toList = ([] : List UInt8))
def shOk (a b : Int) (s : ByteArray) (n : Nat) : Bool :=
 if a = 1 then (decide (0 ≤ b) && decide (b ≤ 1000000000000)) && (noT s && decide (n = 0))
 else decide (b = 0) && (
  if a = 2 then xatomM s && decide (n = 0)
  else if a = 3 then varOkM s && decide (n = 0)
  else if a = 4 ∨ a = 5 then noT s && decide (n ≤ 20)
  else if a = 6 then noT s && (decide (2 ≤ n) && decide (n ≤ 6))
  else if a = 7 then opL s.toList && decide (n = 2)
  else if a = 8 then xatomM s && decide (n ≤ 4)
  else if a = 9 then noT s && decide (n = 1)
  else false)
theorem sh_none {a b : Int} {s : ByteArray} {n : Nat} (h : ¬ (a = 1 ∨ a = 2 ∨ a = 3 ∨ a = 4 ∨ a = 5 ∨ a = 6 ∨ a = 7 ∨ a = 8 ∨ a = 9)) : shOk a b s n = false := by
 unfold shOk
 rw [if_neg (by omega), if_neg (by omega), if_neg (by omega), if_neg (by omega), if_neg (by omega), if_neg (by omega), if_neg (by omega), if_neg (by omega), Bool.and_false]
theorem dcast {p q : Prop} [Decidable p] [Decidable q] (h : p ↔ q) : decide p = decide q := decide_eq_decide.2 h
def fShape (a b : Int) (s : ByteArray) (n : Nat) (slots : Int) : Bool :=
 if a = 3 then noT s && (decide (n = 0) && (decide (-1 ≤ b) && decide (b ≤ slots - 1))) else decide (a ≤ 6) && shOk a b s n
mutual
def lookF : S67 → Int → Nat → Int → Int
 | ⟨a, b, s, l⟩, slots, d, left => match d with
  | 0 => -1
  | d + 1 => if left < 1 ∨ fShape a b s l.length slots = false then -1 else lookFL l slots d (left - 1)
def lookFL : List S67 → Int → Nat → Int → Int
 | [], _, _, left => left
 | x :: r, slots, d, left => if left ≥ 0 then lookFL r slots d (lookF x slots d left) else left
end
theorem lookFL_neg (l : List S67) (slots : Int) (d : Nat) (left : Int) (h : left < 0) : lookFL l slots d left = left := by
 cases l with
 | nil => rw [lookFL]
 | cons x r => rw [lookFL, if_neg (by omega)]
mutual
theorem lookF_le : ∀ x slots d left, left ≤ 300 → lookF x slots d left ≤ 300
 | ⟨a, b, s, l⟩, slots, 0, left, h => by rw [lookF]; omega
 | ⟨a, b, s, l⟩, slots, d + 1, left, h => by
  rw [lookF]
  split
  ·omega
  ·exact lookFL_le l slots d _ (by omega)
theorem lookFL_le : ∀ l slots d left, left ≤ 300 → lookFL l slots d left ≤ 300
 | [], slots, d, left, h => by rw [lookFL]; exact h
 | x :: r, slots, d, left, h => by
  rw [lookFL]
  split
  ·exact lookFL_le r slots d _ (lookF_le x slots d left h)
  ·exact h
end
mutual
def slotsM : S67 → List Int
 | ⟨a, b, _, l⟩ => (if a = 3 ∧ b ≠ -1 then [b] else []) ++ slotsML l
def slotsML : List S67 → List Int
 | [] => []
 | x :: r => slotsM x ++ slotsML r
end
mutual
theorem slots_len : ∀ x, (slotsM x).length ≤ 1 + P_budI x
 | ⟨a, b, s, l⟩ => by
  rw [slotsM, P_budI, List.length_append]
  have := slotsL_len l
  split <;> simp <;> omega
theorem slotsL_len : ∀ l, (slotsML l).length ≤ P_budIL l
 | [] => by rw [slotsML]; simp
 | x :: r => by
  rw [slotsML, P_budIL, List.length_append]
  have := slots_len x
  have := slotsL_len r
  omega
end
theorem spec_l1In_eq (a b c : Int) : spec_l1In.f a b c = some (decide (b ≤ a) && decide (a ≤ c)) := by
 unfold spec_l1In.f
 by_cases h : b ≤ a <;> simp [h]
theorem spec_AtomOk_l (s : ByteArray) (hs : s.size ≤ 140737488351232) (d : Nat) : ∀ i : Nat, i + d = s.size → Ev (fun k => spec_AtomOk.l0 k s i) (atomFrom s i && (decide (1 ≤ (s.size : Int)) && decide ((s.size : Int) ≤ 20))) := by
 induction d with
 | zero =>
  intro i hi
  refine Ev.step (f := fun _ => some (decide (1 ≤ (s.size : Int)) && decide ((s.size : Int) ≤ 20))) (fun k => ?_) (ev_cast ?_ (Ev.now _))
  ·simp only [spec_AtomOk.l0]
   rw [if_neg (by omega), spec_l1In_eq]; rfl
  ·rw [atomFrom_end s i (by omega)]; rfl
 | succ d ih =>
  intro i hi
  have hlt : i < s.size := by omega
  have hn := ih (i + 1) (by omega)
  rw [atomFrom_step s i hlt]
  by_cases h1 : lowB (bt s i) = true
  ·refine Ev.step (fun k => ?_) (ev_cast ?_ hn)
   ·simp only [spec_AtomOk.l0]
    rw [if_pos (by omega), if_pos (by omega), wbt, spec_l1In_eq]
    simp only [Option.bind_some]
    unfold lowB at h1
    rw [if_pos h1, w64 _ (by omega) (by omega)]
    rfl
   ·rw [h1]; rfl
  ·have h1' : lowB (bt s i) = false := by simpa using h1
   by_cases h0 : i = 0
   ·refine Ev.step (f := fun _ => some false) (fun k => ?_) (ev_cast ?_ (Ev.now _))
    ·simp only [spec_AtomOk.l0]
     rw [if_pos (by omega), if_pos (by omega), wbt, spec_l1In_eq]
     simp only [Option.bind_some]
     unfold lowB at h1
     rw [if_neg h1, if_pos (by omega)]
    ·rw [h1']; simp [h0]
   ·by_cases h2 : digB (bt s i) = true
    ·refine Ev.step (fun k => ?_) (ev_cast ?_ hn)
     ·simp only [spec_AtomOk.l0]
      rw [if_pos (by omega), if_pos (by omega), wbt, spec_l1In_eq]
      simp only [Option.bind_some]
      unfold lowB at h1; unfold digB at h2
      rw [if_neg h1, if_neg (by omega), spec_l1In_eq]
      simp only [Option.bind_some]
      rw [if_pos h2, w64 _ (by omega) (by omega)]
      rfl
     ·rw [h2]; simp [h0]
    ·have h2' : digB (bt s i) = false := by simpa using h2
     by_cases h3 : bt s i = 95
     ·refine Ev.step (fun k => ?_) (ev_cast ?_ hn)
      ·simp only [spec_AtomOk.l0]
       rw [if_pos (by omega), if_pos (by omega), wbt, spec_l1In_eq]
       simp only [Option.bind_some]
       unfold lowB at h1; unfold digB at h2
       rw [if_neg h1, if_neg (by omega), spec_l1In_eq]
       simp only [Option.bind_some]
       rw [if_neg h2, if_pos h3, w64 _ (by omega) (by omega)]
       rfl
      ·simp [h0, h3]
     ·refine Ev.step (f := fun _ => some false) (fun k => ?_) (ev_cast ?_ (Ev.now _))
      ·simp only [spec_AtomOk.l0]
       rw [if_pos (by omega), if_pos (by omega), wbt, spec_l1In_eq]
       simp only [Option.bind_some]
       unfold lowB at h1; unfold digB at h2
       rw [if_neg h1, if_neg (by omega), spec_l1In_eq]
       simp only [Option.bind_some]
       rw [if_neg h2, if_neg h3]
      ·rw [h1', h2']; simp [h3]
theorem spec_AtomOk_ev (s : ByteArray) (hs : s.size ≤ 140737488351232) : Ev (fun k => spec_AtomOk.f k s) (atomOkM s) := spec_AtomOk_l s hs s.size 0 (by omega)
theorem spec_l4Reserved_eq (s : ByteArray) : spec_l4Reserved.f s = some (resL s.toList) := by
 unfold spec_l4Reserved.f resL
 generalize s.toList = l
 by_cases h1 : l = [99, 97, 115, 101]
 ·rw [if_pos h1]; simp [h1]
 ·rw [if_neg h1]
  by_cases h2 : l = [111, 102]
  ·rw [if_pos h2]; simp [h2]
  ·rw [if_neg h2]
   by_cases h3 : l = [101, 110, 100] <;> simp [h1, h2, h3]
theorem spec_l4Atom_ev (s : ByteArray) (hs : s.size ≤ 140737488351232) : Ev (fun k => spec_l4Atom.f k s) (xatomM s) := by
 unfold spec_l4Atom.f xatomM
 exact Ev.bind (spec_AtomOk_ev s hs) (ev_and (Ev.bind (ev_of (spec_l4Reserved_eq s)) (Ev.now _)))
theorem spec_l9Shape_ev (slots : Int) (h0 : 0 ≤ slots ∧ slots ≤ 400) (a b : Int) (s : ByteArray) (l : List S67) (hs : s.size ≤ 140737488351232) :
  Ev (fun k => spec_l9Shape.f k a b s l slots) (fShape a b s l.length slots) := by
 unfold spec_l9Shape.f fShape
 by_cases c1 : a = 1
 ·subst c1
  rw [if_neg (show ¬ (1 : Int) = 3 by decide)]
  refine ev_pos rfl (ev_cast ?_ (Ev.bind (ev_of (spec_l1In_eq _ _ _)) (ev_and (ev_andP (Ev.now _)))))
  unfold shOk noT
  rw [if_pos rfl, len0B]; rfl
 refine ev_neg c1 ?_
 by_cases c2 : a = 2
 ·subst c2
  rw [if_neg (show ¬ (2 : Int) = 3 by decide)]
  refine ev_pos rfl (ev_cast ?_ (Ev.bind (spec_l4Atom_ev s hs) (ev_and (ev_andP (Ev.now _)))))
  unfold shOk
  rw [if_neg (by decide), if_pos rfl, len0B, Bool.and_left_comm]; rfl
 refine ev_neg c2 ?_
 by_cases c3 : a = 3
 ·subst c3
  rw [if_pos rfl, w64 (slots - 1) (by omega) (by omega)]
  refine ev_pos rfl (ev_cast ?_ (ev_andP (ev_andP (Ev.bind (ev_of (spec_l1In_eq _ _ _)) (Ev.now _)))))
  unfold noT
  rw [dcast (show (l.length : Int) = 0 ↔ l.length = 0 by omega)]
 refine ev_neg c3 ?_
 rw [if_neg c3]
 have key : ∀ q : Bool, (q = true ↔ a = 4 ∨ a = 5) → Ev (fun k => spec_l9Shape.j0 k (l.length : Int) a q a b s l) (decide (a ≤ 6) && shOk a b s l.length) := by
  intro q hq
  refine Ev.step (f := fun _ => if q = true then (if s.toList = ([] : List UInt8) then (if b = 0 then (some (decide ((l.length : Int) ≤ 20))) else (some false)) else (some false)) else (if a = 6 then (if s.toList = ([] : List UInt8) then (if b = 0 then ((spec_l1In.f (l.length : Int) 2 6).bind fun t114 => (some t114)) else (some false)) else (some false)) else (some false))) (fun k => by simp only [spec_l9Shape.j0]) ?_
  by_cases c4 : a = 4 ∨ a = 5
  ·refine ev_pos (hq.2 c4) (ev_cast ?_ (ev_andP (ev_andP (Ev.now _))))
   unfold shOk noT
   rw [if_neg c1, if_neg c2, if_neg c3, if_pos c4, decide_eq_true (show a ≤ 6 by omega), dcast (show (l.length : Int) ≤ 20 ↔ l.length ≤ 20 by omega), Bool.and_left_comm, Bool.true_and]
  refine ev_neg (fun h => c4 (hq.1 h)) ?_
  by_cases c6 : a = 6
  ·refine ev_pos c6 (ev_cast ?_ (ev_andP (ev_andP (Ev.bind (ev_of (spec_l1In_eq _ _ _)) (Ev.now _)))))
   unfold shOk noT
   rw [if_neg c1, if_neg c2, if_neg c3, if_neg c4, if_pos c6, decide_eq_true (show a ≤ 6 by omega), dcast (show (2 : Int) ≤ l.length ↔ 2 ≤ l.length by omega), dcast (show (l.length : Int) ≤ 6 ↔ l.length ≤ 6 by omega), Bool.and_left_comm, Bool.true_and]
  ·refine ev_neg c6 (ev_cast ?_ (Ev.now _))
   by_cases h6 : a ≤ 6
   ·rw [sh_none (by omega), Bool.and_false]
   ·rw [decide_eq_false h6, Bool.false_and]
 by_cases c4 : a = 4
 ·exact ev_pos c4 (key _ (by rw [beq_iff_eq]; omega))
 ·exact ev_neg c4 (key _ (by rw [beq_iff_eq]; omega))
theorem rdP (l : List S67) (i : Nat) (h : i < l.length) : rd_T67 l (i : Int) = l[i] := by
 unfold rd_T67
 simp [List.getD_eq_getElem?_getD, List.getElem?_eq_getElem h]
theorem fLook_l0 (slots : Int) (d : Nat) (hd : d ≤ 9) (a b : Int) (s : ByteArray) (l : List S67) (hl : (l.length : Int) ≤ 4194304)
  (h : ∀ x ∈ l, ∀ (left : Int), left ≤ 300 → Ev (fun k => spec_l9Look.f k x.f0 x.f1 x.f2 x.f3 slots (d : Int) left) (lookF x slots d left)) (n : Nat) :
  ∀ (i : Nat) (left : Int), i + n = l.length → left ≤ 300 → Ev (fun k => spec_l9Look.l0 k slots ((d + 1 : Nat) : Int) left i a b s l) (lookFL (l.drop i) slots d left) := by
 induction n with
 | zero =>
  intro i left hi hleft
  rw [List.drop_eq_nil_of_le (by omega), lookFL]
  refine Ev.step (f := fun _ => some left) (fun k => ?_) (Ev.now _)
  simp only [spec_l9Look.l0]; rw [if_neg (by omega)]
 | succ n ih =>
  intro i left hi hleft
  have hlt : i < l.length := by omega
  have hdr : l.drop i = l[i] :: l.drop (i + 1) := List.drop_eq_getElem_cons hlt
  by_cases h0 : left ≥ 0
  ·rw [hdr, lookFL, if_pos h0]
   refine Ev.step (f := fun k => ((spec_l9Look.f k l[i].f0 l[i].f1 l[i].f2 l[i].f3 slots (d : Int) left).bind fun t118 => (spec_l9Look.l0 k slots ((d + 1 : Nat) : Int) t118 ((i + 1 : Nat) : Int) a b s l))) (fun k => ?_) (Ev.bind (h l[i] (List.getElem_mem hlt) left hleft) (ih (i + 1) _ (by omega) (lookF_le _ slots d left hleft)))
   simp only [spec_l9Look.l0]
   have e1 : (((d + 1 : Nat) : Int)) - 1 = (d : Int) := by omega
   have e2 : (i : Int) + 1 = ((i + 1 : Nat) : Int) := by omega
   rw [if_pos (by omega), if_pos h0, if_pos (by omega), rdP l i hlt, w64 (((d + 1 : Nat) : Int) - 1) (by omega) (by omega), w64 ((i : Int) + 1) (by omega) (by omega), e1, e2]
  ·rw [lookFL_neg _ _ _ _ (by omega)]
   refine Ev.step (f := fun _ => some left) (fun k => ?_) (Ev.now _)
   simp only [spec_l9Look.l0]; rw [if_pos (by omega), if_neg h0]
theorem fLook_all (slots : Int) (h0 : 0 ≤ slots ∧ slots ≤ 400) : ∀ x, (P_budI x : Int) ≤ 2097152 → ∀ (d : Nat), d ≤ 10 → ∀ left : Int, left ≤ 300 → Ev (fun k => spec_l9Look.f k x.f0 x.f1 x.f2 x.f3 slots (d : Int) left) (lookF x slots d left) := by
 refine P_indI (fun a b s l ih hb d hd left hleft => ?_)
 rw [P_budI] at hb
 have hll := P_budIL_len l
 have bad : ∀ d' : Int, Ev (fun k => spec_l9Look.j0 k slots d' left true a b s l) (-1) := fun d' => Ev.step (f := fun _ => some (-1)) (fun k => by simp only [spec_l9Look.j0]; rw [if_pos trivial]) (Ev.now _)
 show Ev (fun k => spec_l9Look.f k a b s l slots (d : Int) left) _
 cases d with
 | zero =>
  rw [lookF]
  exact Ev.step (fun k => by simp only [spec_l9Look.f]; rw [if_pos (by omega)]) (bad _)
 | succ d =>
  rw [lookF]
  by_cases hl1 : left < 1
  ·rw [if_pos (.inl hl1)]
   exact Ev.step (fun k => by simp only [spec_l9Look.f]; rw [if_neg (by omega), if_pos hl1]) (bad _)
  have es := spec_l9Shape_ev slots h0 a b s l (by omega)
  refine Ev.step (f := fun k => (spec_l9Shape.f k a b s l slots).bind fun t116 => (spec_l9Look.j0 k slots ((d + 1 : Nat) : Int) left (!t116) a b s l)) (fun k => by simp only [spec_l9Look.f]; rw [if_neg (by omega), if_neg hl1]) (Ev.bind es ?_)
  cases hs : fShape a b s l.length slots with
  | false =>
   rw [if_pos (.inr rfl)]
   exact bad _
  | true =>
   rw [if_neg (by simp; omega)]
   refine Ev.step (f := fun k => spec_l9Look.l0 k slots ((d + 1 : Nat) : Int) (left - 1) 0 a b s l) (fun k => by simp only [spec_l9Look.j0]; rw [if_neg (by decide), w64 _ (by omega) (by omega)]) ?_
   have := fLook_l0 slots d (by omega) a b s l (by omega) (fun x hx lf hlf => ih x hx (by have := P_budI_mem l x hx; omega) d (by omega) lf hlf) l.length 0 (left - 1) (by omega) (by omega)
   rw [List.drop_zero] at this
   exact this
theorem slots_l (a b : Int) (s : ByteArray) (l : List S67) (hl : (P_budIL l : Int) ≤ 4194304) (h : ∀ y ∈ l, Ev (fun k => spec_l9Slots.f k y.f0 y.f1 y.f2 y.f3) (slotsM y)) (n : Nat) :
  ∀ (i : Nat) (acc : List Int), i + n = l.length → acc.length + (slotsML (l.drop i)).length ≤ 9000000 → Ev (fun k => spec_l9Slots.l0 k acc i a b s l) (acc ++ slotsML (l.drop i)) := by
 have hll := P_budIL_len l
 induction n with
 | zero =>
  intro i acc hi hb
  refine Ev.step (f := fun _ => some acc) (fun k => ?_) (ev_cast ?_ (Ev.now _))
  ·simp only [spec_l9Slots.l0]; rw [if_neg (by omega)]
  ·rw [List.drop_eq_nil_of_le (by omega), slotsML, List.append_nil]
 | succ n ih =>
  intro i acc hi hb
  have hlt : i < l.length := by omega
  have hdr : l.drop i = l[i] :: l.drop (i + 1) := List.drop_eq_getElem_cons hlt
  rw [hdr, slotsML, List.length_append] at hb
  rw [hdr, slotsML, ← List.append_assoc]
  refine Ev.step (f := fun k => ((spec_l9Slots.f k l[i].f0 l[i].f1 l[i].f2 l[i].f3).bind fun t127 => (if acc.length + t127.length < 17592186044416 then (spec_l9Slots.l0 k (acc ++ t127) ((i + 1 : Nat) : Int) a b s l) else (none)))) (fun k => ?_) (Ev.bind (h l[i] (List.getElem_mem hlt)) (ev_pos (by omega) (ih (i + 1) _ (by omega) (by rw [List.length_append]; omega))))
  simp only [spec_l9Slots.l0]
  have e2 : (i : Int) + 1 = ((i + 1 : Nat) : Int) := by omega
  rw [if_pos (by omega), if_pos (by omega), rdP l i hlt, w64 ((i : Int) + 1) (by omega) (by omega), e2]
theorem slots_all : ∀ x, (P_budI x : Int) ≤ 4194304 → Ev (fun k => spec_l9Slots.f k x.f0 x.f1 x.f2 x.f3) (slotsM x) := by
 refine P_indI (fun a b s l ih hb => ?_)
 rw [P_budI] at hb
 have hlen := slotsL_len l
 have hL : ∀ acc : List Int, acc.length ≤ 1 → Ev (fun k => spec_l9Slots.j1 k acc a b s l) (acc ++ slotsML l) := fun acc ha => by
  have := slots_l a b s l (by omega) (fun y hy => ih y hy (by have := P_budI_mem l y hy; omega)) l.length 0 acc (by omega) (by rw [List.drop_zero]; omega)
  rw [List.drop_zero] at this
  exact Ev.step (f := fun k => spec_l9Slots.l0 k acc 0 a b s l) (fun k => by simp only [spec_l9Slots.j1]) this
 show Ev (fun k => spec_l9Slots.f k a b s l) _
 rw [slotsM]
 have key : ∀ q : Bool, (q = true ↔ a = 3 ∧ b ≠ -1) → Ev (fun k => spec_l9Slots.j0 k [] q a b s l) ((if a = 3 ∧ b ≠ -1 then [b] else []) ++ slotsML l) := by
  intro q hq
  by_cases c : a = 3 ∧ b ≠ -1
  ·rw [if_pos c]
   refine Ev.step (f := fun k => spec_l9Slots.j1 k [b] a b s l) (fun k => ?_) (hL [b] (by simp))
   simp only [spec_l9Slots.j0]; rw [if_pos (hq.2 c), if_pos (by simp)]; rfl
  ·rw [if_neg c]
   refine Ev.step (f := fun k => spec_l9Slots.j1 k [] a b s l) (fun k => ?_) (hL [] (by simp))
   simp only [spec_l9Slots.j0]; rw [if_neg (fun h => c (hq.1 h))]
 by_cases c3 : a = 3
 ·refine Ev.step (f := fun k => spec_l9Slots.j0 k [] (b != (-1)) a b s l) (fun k => ?_) (key _ (by rw [bne_iff_ne]; exact ⟨fun h => ⟨c3, h⟩, fun h => h.2⟩))
  simp only [spec_l9Slots.f, Option.bind_some]; rw [if_pos c3]
 ·refine Ev.step (f := fun k => spec_l9Slots.j0 k [] false a b s l) (fun k => ?_) (key _ ⟨fun h => (by cases h), fun h => absurd h.1 c3⟩)
  simp only [spec_l9Slots.f, Option.bind_some]; rw [if_neg c3]
theorem dup_l1 (l : List Int) (hl : (l.length : Int) ≤ 8388608) (i : Nat) (hi : i < l.length) (r : Bool) (hnext : ¬ l[i] ∈ l.take i → Ev (fun k => spec_PatFits.l0 k l ((i + 1 : Nat) : Int)) r) (hstop : l[i] ∈ l.take i → r = false) (n : Nat) :
  ∀ j : Nat, j + n = i → ¬ l[i] ∈ l.take j → Ev (fun k => spec_PatFits.l1 k l i j) r := by
 induction n with
 | zero =>
  intro j hj hn
  have e : j = i := by omega
  subst e
  refine Ev.step (fun k => ?_) (hnext hn)
  simp only [spec_PatFits.l1]
  have e2 : (j : Int) + 1 = ((j + 1 : Nat) : Int) := by omega
  rw [if_neg (by omega), w64 ((j : Int) + 1) (by omega) (by omega), e2]
 | succ n ih =>
  intro j hj hn
  have hjl : j < l.length := by omega
  refine Ev.step (f := fun k => (if l[j] = l[i] then (some false) else (spec_PatFits.l1 k l i ((j + 1 : Nat) : Int)))) (fun k => ?_) ?_
  ·simp only [spec_PatFits.l1]
   have e2 : (j : Int) + 1 = ((j + 1 : Nat) : Int) := by omega
   rw [if_pos (by omega), if_pos (by omega), if_pos (by omega), if_pos (by omega), if_pos (by omega), rdN l j hjl, rdN l i hi, w64 ((j : Int) + 1) (by omega) (by omega), e2]
  ·have htk : l.take (j + 1) = l.take j ++ [l[j]] := List.take_succ_eq_append_getElem hjl
   by_cases h : l[j] = l[i]
   ·have hm : l[i] ∈ l.take i := by
     rw [← h]
     rw [List.mem_take_iff_getElem]
     exact ⟨j, by omega, rfl⟩
    rw [hstop hm]
    exact ev_pos h (Ev.now _)
   ·refine ev_neg h (ih (j + 1) (by omega) ?_)
    rw [htk, List.mem_append, List.mem_singleton]
    rintro (h2 | h2)
    ·exact hn h2
    ·exact h h2.symm
theorem dup_l0 (l : List Int) (hl : (l.length : Int) ≤ 8388608) (d : Nat) : ∀ (i : Nat), i + d = l.length → (l.take i).Nodup → Ev (fun k => spec_PatFits.l0 k l i) (decide l.Nodup) := by
 induction d with
 | zero =>
  intro i hi hn
  refine Ev.step (f := fun _ => some true) (fun k => ?_) (ev_cast ?_ (Ev.now _))
  ·simp only [spec_PatFits.l0]; rw [if_neg (by omega)]
  ·rw [List.take_of_length_le (by omega)] at hn
   exact (decide_eq_true hn).symm
 | succ d ih =>
  intro i hi hn
  have hlt : i < l.length := by omega
  have ht := nd_app (l.take i) l[i]
  have htk : l.take i ++ [l[i]] = l.take (i + 1) := (List.take_succ_eq_append_getElem hlt).symm
  rw [htk] at ht
  refine Ev.step (f := fun k => spec_PatFits.l1 k l i 0) (fun k => by simp only [spec_PatFits.l0]; rw [if_pos (by omega)]) ?_
  refine dup_l1 l hl i hlt _ (fun hm => ih (i + 1) (by omega) (ht.2 ⟨hn, hm⟩)) (fun hm => decide_eq_false (fun h => ?_)) i 0 (by omega) (by simp)
  have h2 : (l.take (i + 1)).Nodup := by
   have e2 : (l.take (i + 1) ++ l.drop (i + 1)).Nodup := by rw [List.take_append_drop]; exact h
   exact nd_left e2
  exact (ht.1 h2).2 hm
def fitsM (x : S67) (slots : Int) : Bool := (decide (0 ≤ slots) && decide (slots ≤ 400)) && (decide (0 ≤ lookF x slots 10 300) && decide (slotsM x).Nodup)
theorem spec_PatFits_ev (x : S67) (slots : Int) (hb : (P_budI x : Int) ≤ 2097152) : Ev (fun k => spec_PatFits.f k x.f0 x.f1 x.f2 x.f3 slots) (fitsM x slots) := by
 unfold spec_PatFits.f fitsM
 have bad : Ev (fun k => spec_PatFits.j0 k true x.f0 x.f1 x.f2 x.f3) false := Ev.step (f := fun _ => some false) (fun k => by simp only [spec_PatFits.j0]; rw [if_pos trivial]) (Ev.now _)
 refine Ev.bind (ev_of (spec_l1In_eq _ _ _)) ?_
 by_cases hs : 0 ≤ slots ∧ slots ≤ 400
 ·rw [decide_eq_true hs.1, decide_eq_true hs.2]
  refine ev_pos rfl (Ev.bind (fLook_all slots hs x hb 10 (by omega) 300 (by omega)) ?_)
  by_cases h0 : 0 ≤ lookF x slots 10 300
  ·rw [decide_eq_true h0, decide_eq_false (show ¬ lookF x slots 10 300 < 0 by omega)]
   have hv := slots_len x
   refine Ev.step (f := fun k => (spec_l9Slots.f k x.f0 x.f1 x.f2 x.f3).bind fun t136 => (spec_PatFits.l0 k t136 0)) (fun k => by simp only [spec_PatFits.j0]; rw [if_neg (by decide)]) (Ev.bind (slots_all x (by omega)) ?_)
   exact dup_l0 (slotsM x) (by omega) (slotsM x).length 0 (by omega) (by rw [List.take_zero]; exact List.nodup_nil)
  ·rw [decide_eq_false h0, decide_eq_true (show lookF x slots 10 300 < 0 by omega)]
   exact bad
 ·have hf : (decide (0 ≤ slots) && decide (slots ≤ 400)) = false := by
   rw [← dec_and]; exact decide_eq_false hs
  rw [hf]
  exact ev_neg (by decide) bad
theorem impl_inRange_eq (a b c : Int) : impl_inRange.f a b c = some (decide (b ≤ a) && decide (a ≤ c)) := by
 unfold impl_inRange.f
 by_cases h : b ≤ a <;> simp [h]
theorem impl_isSmall_eq (c : Int) : impl_isSmall.f c = some (lowB c) := by
 unfold impl_isSmall.f lowB
 by_cases h : 97 ≤ c <;> simp [h]
theorem impl_isFigure_eq (c : Int) : impl_isFigure.f c = some (digB c) := by
 unfold impl_isFigure.f digB
 by_cases h : 48 ≤ c <;> simp [h]
theorem impl_AtomOk_l (s : ByteArray) (hs : s.size ≤ 140737488351232) (d : Nat) : ∀ i : Nat, i + d = s.size → Ev (fun k => impl_AtomOk.l0 k s i) (atomFrom s i && (decide (1 ≤ (s.size : Int)) && decide ((s.size : Int) ≤ 20))) := by
 induction d with
 | zero =>
  intro i hi
  refine Ev.step (f := fun _ => some (decide (1 ≤ (s.size : Int)) && decide ((s.size : Int) ≤ 20))) (fun k => ?_) (ev_cast ?_ (Ev.now _))
  ·simp only [impl_AtomOk.l0]
   rw [if_neg (by omega), impl_inRange_eq]; rfl
  ·rw [atomFrom_end s i (by omega)]; rfl
 | succ d ih =>
  intro i hi
  have hlt : i < s.size := by omega
  have hn := ih (i + 1) (by omega)
  rw [atomFrom_step s i hlt]
  by_cases h1 : lowB (bt s i) = true
  ·refine Ev.step (fun k => ?_) (ev_cast ?_ hn)
   ·simp only [impl_AtomOk.l0]
    rw [if_pos (by omega), if_pos (by omega), impl_isSmall_eq]
    simp only [Option.bind_some]
    rw [if_pos h1, w64 _ (by omega) (by omega)]
    rfl
   ·rw [h1]; rfl
  ·have h1' : lowB (bt s i) = false := by simpa using h1
   by_cases h0 : i = 0
   ·refine Ev.step (f := fun _ => some false) (fun k => ?_) (ev_cast ?_ (Ev.now _))
    ·simp only [impl_AtomOk.l0]
     rw [if_pos (by omega), if_pos (by omega), impl_isSmall_eq]
     simp only [Option.bind_some]
     rw [if_neg h1, if_pos (by omega)]
    ·rw [h1']; simp [h0]
   ·by_cases h2 : digB (bt s i) = true
    ·refine Ev.step (fun k => ?_) (ev_cast ?_ hn)
     ·simp only [impl_AtomOk.l0]
      rw [if_pos (by omega), if_pos (by omega), impl_isSmall_eq]
      simp only [Option.bind_some]
      rw [if_neg h1, if_neg (by omega), impl_isFigure_eq]
      simp only [Option.bind_some]
      rw [if_pos h2, w64 _ (by omega) (by omega)]
      rfl
     ·rw [h2]; simp [h0]
    ·have h2' : digB (bt s i) = false := by simpa using h2
     by_cases h3 : bt s i = 95
     ·refine Ev.step (fun k => ?_) (ev_cast ?_ hn)
      ·simp only [impl_AtomOk.l0]
       rw [if_pos (by omega), if_pos (by omega), impl_isSmall_eq]
       simp only [Option.bind_some]
       rw [if_neg h1, if_neg (by omega), impl_isFigure_eq]
       simp only [Option.bind_some]
       rw [if_neg h2, if_pos h3, w64 _ (by omega) (by omega)]
       rfl
      ·simp [h0, h3]
     ·refine Ev.step (f := fun _ => some false) (fun k => ?_) (ev_cast ?_ (Ev.now _))
      ·simp only [impl_AtomOk.l0]
       rw [if_pos (by omega), if_pos (by omega), impl_isSmall_eq]
       simp only [Option.bind_some]
       rw [if_neg h1, if_neg (by omega), impl_isFigure_eq]
       simp only [Option.bind_some]
       rw [if_neg h2, if_neg h3]
      ·rw [h1', h2']; simp [h3]
theorem impl_AtomOk_ev (s : ByteArray) (hs : s.size ≤ 140737488351232) : Ev (fun k => impl_AtomOk.f k s) (atomOkM s) := impl_AtomOk_l s hs s.size 0 (by omega)
theorem impl_xAtomOk_ev (s : ByteArray) (hs : s.size ≤ 140737488351232) : Ev (fun k => impl_xAtomOk.f k s) (xatomM s) := by
 unfold impl_xAtomOk.f xatomM
 refine Ev.bind (impl_AtomOk_ev s hs) (ev_and (ev_of ?_))
 unfold resL
 generalize s.toList = l
 by_cases h1 : l = [99, 97, 115, 101]
 ·rw [if_pos h1]; simp [h1]
 ·rw [if_neg h1]
  by_cases h2 : l = [111, 102]
  ·rw [if_pos h2]; simp [h2]
  ·rw [if_neg h2]
   by_cases h3 : l = [101, 110, 100] <;> simp [h1, h2, h3]
theorem impl_isOp_eq (s : ByteArray) : impl_isOp.f s = some (opL s.toList) := by
 unfold impl_isOp.f opL
 generalize s.toList = l
 by_cases h1 : l = [43]
 ·rw [if_pos h1]; simp [h1]
 rw [if_neg h1]
 by_cases h2 : l = [45]
 ·rw [if_pos h2]; simp [h2]
 rw [if_neg h2]
 by_cases h3 : l = [42]
 ·rw [if_pos h3]; simp [h3]
 rw [if_neg h3]
 by_cases h4 : l = [61, 61]
 ·rw [if_pos h4]; simp [h4]
 rw [if_neg h4]
 by_cases h5 : l = [60] <;> simp [h1, h2, h3, h4, h5]
theorem impl_isLarge_eq (c : Int) : impl_isLarge.f c = some (largeB c) := by
 unfold impl_isLarge.f largeB
 by_cases h : c ≥ 65
 ·rw [if_pos h]
  by_cases h2 : c ≤ 90
  ·rw [if_pos h2]; simp [h2]; omega
  ·rw [if_neg h2]; simp [h2]; rfl
 ·rw [if_neg h]; simp; rw [decide_eq_false (by omega)]; simp; rfl
theorem impl_isWord_eq (c : Int) : impl_isWordByte.f c = some (lowB c || (largeB c || digB c)) := by
 unfold impl_isWordByte.f
 rw [impl_isSmall_eq, impl_isLarge_eq, impl_isFigure_eq]
 cases lowB c <;> cases largeB c <;> rfl
theorem impl_varOk_ev (s : ByteArray) (hs : s.size ≤ 140737488351232) : Ev (fun k => impl_varOk.f k s) (varOkM s) := by
 rw [← varOk_same]
 unfold impl_varOk.f
 refine all_loopB (fun k i => impl_varOk.l0 k s i) (varQ s) s.size (in20 s && largeB (bt s 0)) ?_ ?_ s.size 0 (by omega)
 ·intro i hi r hr hn
  have e1 := impl_isWord_eq (bt s i)
  have hw : wrap64 ((i : Int) + 1) = ((i + 1 : Nat) : Int) := by rw [w64 _ (by omega) (by omega)]; rfl
  have hq : varQ s i = (lowB (bt s i) || (largeB (bt s i) || digB (bt s i))) := rfl
  rw [← hq] at e1
  cases g : varQ s i with
  | true =>
   refine Ev.step (fun k => ?_) (hr g)
   simp only [impl_varOk.l0]
   rw [if_pos (by omega), if_pos (by omega), e1, g, hw]
   rfl
  | false =>
   refine Ev.step (f := fun _ => some false) (fun k => ?_) (ev_cast (hn g).symm (Ev.now _))
   simp only [impl_varOk.l0]
   rw [if_pos (by omega), if_pos (by omega), e1, g]
   rfl
 ·refine Ev.step (f := fun _ => some (in20 s && largeB (bt s 0))) (fun k => ?_) (Ev.now _)
  simp only [impl_varOk.l0]
  rw [if_neg (by omega), impl_inRange_eq, impl_isLarge_eq]
  have hi : (decide (1 ≤ (s.size : Int)) && decide ((s.size : Int) ≤ 20)) = in20 s := rfl
  rw [hi]
  simp only [Option.bind_some]
  cases h : in20 s with
  | true =>
   unfold in20 at h
   rw [Bool.and_eq_true, decide_eq_true_eq, decide_eq_true_eq] at h
   rw [if_pos rfl, if_pos (by omega)]; rfl
  | false => rw [if_neg (by decide)]; rfl
theorem impl_shapeOk_j0 (a : Int) (s : ByteArray) (n : Nat) (hs : s.size ≤ 140737488351232) (h3 : ¬ (a = 1 ∨ a = 2 ∨ a = 3)) (b : Int) (q : Bool) (hq : q = true ↔ a = 4 ∨ a = 5) :
  Ev (fun k => impl_shapeOk.j0 k b s (n : Int) a q) (shOk a b s n) := by
 unfold shOk noT
 rw [if_neg (by omega), if_neg (by omega), if_neg (by omega)]
 refine Ev.step (f := fun k => if q = true then (if b = 0 then (if s.toList = ([] : List UInt8) then (some (decide ((n : Int) ≤ 20))) else (some false)) else (some false)) else (if a = 6 then (if b = 0 then (if s.toList = ([] : List UInt8) then ((impl_inRange.f (n : Int) 2 6).bind fun t251 => (some t251)) else (some false)) else (some false)) else (if a = 7 then (if b = 0 then ((impl_isOp.f s).bind fun t252 => (if t252 = true then (some ((n : Int) == 2)) else (some false))) else (some false)) else (if a = 8 then (if b = 0 then ((impl_xAtomOk.f k s).bind fun t253 => (if t253 = true then (some (decide ((n : Int) ≤ 4))) else (some false))) else (some false)) else (if a = 9 then (if b = 0 then (if s.toList = ([] : List UInt8) then (some ((n : Int) == 1)) else (some false)) else (some false)) else (some false)))))) (fun k => by simp only [impl_shapeOk.j0]) ?_
 by_cases c4 : a = 4 ∨ a = 5
 ·rw [if_pos c4]
  refine ev_pos (hq.2 c4) (ev_cast ?_ (ev_andP (ev_andP (Ev.now _))))
  rw [dcast (show (n : Int) ≤ 20 ↔ n ≤ 20 by omega)]
 rw [if_neg c4]
 refine ev_neg (fun h => c4 (hq.1 h)) ?_
 by_cases c6 : a = 6
 ·rw [if_pos c6]
  refine ev_pos c6 (ev_cast ?_ (ev_andP (ev_andP (Ev.bind (ev_of (impl_inRange_eq _ _ _)) (Ev.now _)))))
  rw [dcast (show (2 : Int) ≤ n ↔ 2 ≤ n by omega), dcast (show (n : Int) ≤ 6 ↔ n ≤ 6 by omega)]
 rw [if_neg c6]
 refine ev_neg c6 ?_
 by_cases c7 : a = 7
 ·rw [if_pos c7]
  refine ev_pos c7 (ev_cast ?_ (ev_andP (Ev.bind (ev_of (impl_isOp_eq s)) (ev_and (Ev.now _)))))
  rw [len2B]
 rw [if_neg c7]
 refine ev_neg c7 ?_
 by_cases c8 : a = 8
 ·rw [if_pos c8]
  refine ev_pos c8 (ev_cast ?_ (ev_andP (Ev.bind (impl_xAtomOk_ev s hs) (ev_and (Ev.now _)))))
  rw [dcast (show (n : Int) ≤ 4 ↔ n ≤ 4 by omega)]
 rw [if_neg c8]
 refine ev_neg c8 ?_
 by_cases c9 : a = 9
 ·refine ev_pos c9 ?_
  rw [if_pos c9]
  refine ev_cast ?_ (ev_andP (ev_andP (Ev.now _)))
  rw [len1B]
 ·refine ev_neg c9 ?_
  rw [if_neg c9, Bool.and_false]
  exact Ev.now _
theorem impl_shapeOk_ev (a b : Int) (s : ByteArray) (n : Nat) (hs : s.size ≤ 140737488351232) : Ev (fun k => impl_shapeOk.f k a b s (n : Int)) (shOk a b s n) := by
 unfold impl_shapeOk.f
 by_cases c1 : a = 1
 ·unfold shOk noT
  rw [if_pos c1]
  refine ev_pos c1 (ev_cast ?_ (Ev.bind (ev_of (impl_inRange_eq _ _ _)) (ev_and (ev_andP (Ev.now _)))))
  rw [len0B]
 refine ev_neg c1 ?_
 by_cases c2 : a = 2
 ·unfold shOk
  rw [if_neg c1, if_pos c2]
  refine ev_pos c2 (ev_cast ?_ (ev_andP (Ev.bind (impl_xAtomOk_ev s hs) (ev_and (Ev.now _)))))
  rw [len0B]
 refine ev_neg c2 ?_
 by_cases c3 : a = 3
 ·unfold shOk
  rw [if_neg c1, if_neg c2, if_pos c3]
  refine ev_pos c3 (ev_cast ?_ (ev_andP (Ev.bind (impl_varOk_ev s hs) (ev_and (Ev.now _)))))
  rw [len0B]
 refine ev_neg c3 ?_
 by_cases c4 : a = 4
 ·exact ev_pos c4 (impl_shapeOk_j0 a s n hs (by omega) b _ (by rw [beq_iff_eq]; omega))
 ·exact ev_neg c4 (impl_shapeOk_j0 a s n hs (by omega) b _ (by rw [beq_iff_eq]; omega))
theorem dcast2 {p q : Prop} [Decidable p] [Decidable q] (h : p ↔ q) : decide p = decide q := decide_eq_decide.2 h
theorem iIndex_l (l : List Int) (hl : (l.length : Int) ≤ 8388608) (s : Int) (d : Nat) : ∀ (i : Nat), i + d = l.length → ∃ r, Ev (fun k => slices_Index_int_int.l0 k l s (l.length : Int) i) r ∧ decide (r ≥ 0) = decide (s ∈ l.drop i) := by
 induction d with
 | zero =>
  intro i hi
  refine ⟨-1, Ev.step (f := fun _ => some (-1)) (fun k => ?_) (Ev.now _), ?_⟩
  ·simp only [slices_Index_int_int.l0]; rw [if_neg (by omega)]
  ·rw [List.drop_eq_nil_of_le (by omega)]; simp
 | succ d ih =>
  intro i hi
  have hlt : i < l.length := by omega
  have hd : l.drop i = l[i] :: l.drop (i + 1) := List.drop_eq_getElem_cons hlt
  have st : ∀ r, Ev (fun k => (if s = l[i] then (some (i : Int)) else (slices_Index_int_int.l0 k l s (l.length : Int) ((i + 1 : Nat) : Int)))) r → Ev (fun k => slices_Index_int_int.l0 k l s (l.length : Int) i) r := fun r er => Ev.step (fun k => by
   simp only [slices_Index_int_int.l0]
   have e1 : (i : Int) + 1 = ((i + 1 : Nat) : Int) := by omega
   rw [if_pos (by omega), if_pos (by omega), if_pos (by omega), rdN l i hlt, w64 ((i : Int) + 1) (by omega) (by omega), e1]) er
  rw [hd]
  by_cases h : s = l[i]
  ·refine ⟨(i : Int), st _ (ev_pos h (Ev.now _)), ?_⟩
   rw [h, decide_eq_true (show (i : Int) ≥ 0 by omega)]
   exact (decide_eq_true List.mem_cons_self).symm
  ·obtain ⟨r, e, hr⟩ := ih (i + 1) (by omega)
   refine ⟨r, st _ (ev_neg h e), ?_⟩
   rw [hr]
   refine dcast2 ?_
   rw [List.mem_cons]
   exact ⟨fun h3 => .inr h3, fun h3 => h3.elim (fun e => absurd e h) id⟩
theorem iContains_ev (l : List Int) (hl : (l.length : Int) ≤ 8388608) (s : Int) : Ev (fun k => slices_Contains_int_int.f k l s) (decide (s ∈ l)) := by
 obtain ⟨r, e, hr⟩ := iIndex_l l hl s l.length 0 (by omega)
 unfold slices_Contains_int_int.f
 rw [List.drop_zero] at hr
 unfold slices_Index_int_int.f
 exact ev_cast hr (Ev.bind e (Ev.now _))
def fl (l : List Int) : List Int := l.filter (fun z => decide (z ≠ -1))
theorem fl_app (l m : List Int) : fl (l ++ m) = fl l ++ fl m := List.filter_append ..
theorem fl_mem {l : List Int} {z : Int} (h : z ≠ -1) : z ∈ fl l ↔ z ∈ l := by
 unfold fl
 rw [List.mem_filter]
 simp [h]
/-- What a run over a pattern has come to: of x, from count c and slots ns. -/
def FP (x : S67) (slots : Int) (d c : Nat) (ns : List Int) (ok : Bool) (ns2 : List Int) (c2 : Int) : Prop :=
 (ok = true → c2 ≤ 300 ∧ 0 ≤ c2 ∧ lookF x slots d (300 - c) = 300 - c2 ∧ fl ns2 = fl ns ++ slotsM x ∧ (fl ns ++ slotsM x).Nodup ∧ (ns2.length : Int) ≤ c2) ∧ (ok = false → lookF x slots d (300 - c) < 0 ∨ ¬ (fl ns ++ slotsM x).Nodup)
theorem fp_loop (slots : Int) (dp : Int) (d : Nat) (hd : dp + d = 10) (h1 : 1 ≤ dp) (l : List S67) (hl : (l.length : Int) ≤ 4194304)
  (h : ∀ x ∈ l, ∀ (c : Nat) (ns : List Int), c ≤ 300 → ns.length ≤ c → (fl ns).Nodup → ∃ ok ns2 c2, Ev (fun k => impl_fitter_fits.f k slots (c : Int) ns x.f0 x.f1 x.f2 x.f3 (dp + 1)) (ok, ns2, slots, c2) ∧ FP x slots d c ns ok ns2 c2) (n : Nat) :
  ∀ (i c : Nat) (ns : List Int), i + n = l.length → c ≤ 300 → ns.length ≤ c → (fl ns).Nodup → ∃ ok ns2 c2, Ev (fun k => impl_fitter_fits.l0 k dp l (l.length : Int) i slots (c : Int) ns) (ok, ns2, slots, c2) ∧
   (ok = true → c2 ≤ 300 ∧ 0 ≤ c2 ∧ lookFL (l.drop i) slots d (300 - c) = 300 - c2 ∧ fl ns2 = fl ns ++ slotsML (l.drop i) ∧ (fl ns ++ slotsML (l.drop i)).Nodup ∧ (ns2.length : Int) ≤ c2) ∧ (ok = false → lookFL (l.drop i) slots d (300 - c) < 0 ∨ ¬ (fl ns ++ slotsML (l.drop i)).Nodup) := by
 induction n with
 | zero =>
  intro i c ns hi hc hn hnd
  refine ⟨true, ns, c, Ev.step (f := fun _ => some (true, ns, slots, (c : Int))) (fun k => by simp only [impl_fitter_fits.l0]; rw [if_neg (by omega)]) (Ev.now _), fun _ => ?_, fun h => (by cases h)⟩
  rw [List.drop_eq_nil_of_le (by omega), lookFL, slotsML, List.append_nil]
  exact ⟨by omega, by omega, rfl, rfl, hnd, by omega⟩
 | succ n ih =>
  intro i c ns hi hc hn hnd
  have hlt : i < l.length := by omega
  have hdr : l.drop i = l[i] :: l.drop (i + 1) := List.drop_eq_getElem_cons hlt
  obtain ⟨ok, ns1, c1, e, hok, hno⟩ := h l[i] (List.getElem_mem hlt) c ns hc hn hnd
  have st : ∀ r, Ev (fun k => if ok = true then (impl_fitter_fits.l0 k dp l (l.length : Int) ((i + 1 : Nat) : Int) slots c1 ns1) else (some (false, ns1, slots, c1))) r → Ev (fun k => impl_fitter_fits.l0 k dp l (l.length : Int) i slots (c : Int) ns) r := by
   intro r er
   refine Ev.step (f := fun k => (impl_fitter_fits.f k slots (c : Int) ns l[i].f0 l[i].f1 l[i].f2 l[i].f3 (dp + 1)).bind fun bt188 => (if bt188.1 = true then (impl_fitter_fits.l0 k dp l (l.length : Int) ((i + 1 : Nat) : Int) bt188.2.2.1 bt188.2.2.2 bt188.2.1) else (some (false, bt188.2.1, bt188.2.2.1, bt188.2.2.2)))) (fun k => ?_) (Ev.bind e er)
   simp only [impl_fitter_fits.l0]
   have e1 : (i : Int) + 1 = ((i + 1 : Nat) : Int) := by omega
   rw [if_pos (by omega), if_pos (by omega), if_pos (by omega), rdP l i hlt, w64 (dp + 1) (by omega) (by omega), w64 ((i : Int) + 1) (by omega) (by omega), e1]
  rw [hdr, lookFL, if_pos (by omega), slotsML, ← List.append_assoc]
  cases ok with
  | true =>
   obtain ⟨a1, a2, a3, a4, a5, a6⟩ := hok rfl
   obtain ⟨c1n, rfl⟩ : ∃ m : Nat, c1 = (m : Int) := ⟨c1.toNat, by omega⟩
   obtain ⟨ok2, ns2, c2, e2, q1, q2⟩ := ih (i + 1) c1n ns1 (by omega) (by omega) (by omega) (by rw [a4]; exact a5)
   rw [a3]
   rw [a4] at q1 q2
   exact ⟨ok2, ns2, c2, st _ (ev_pos rfl e2), q1, q2⟩
  | false =>
   refine ⟨false, ns1, c1, st _ (ev_neg (by decide) (Ev.now _)), fun h => (by cases h), fun _ => ?_⟩
   rcases hno rfl with h2 | h2
   ·exact .inl (by rw [lookFL_neg _ _ _ _ h2]; exact h2)
   ·exact .inr (fun h3 => h2 (nd_left h3))
theorem fp_all (slots : Int) (hsl : 0 ≤ slots ∧ slots ≤ 400) : ∀ x, (P_budI x : Int) ≤ 2097152 → ∀ (d : Nat) (dp : Int), dp + d = 11 → 1 ≤ dp → ∀ (c : Nat) (ns : List Int), c ≤ 300 → ns.length ≤ c → (fl ns).Nodup →
  ∃ ok ns2 c2, Ev (fun k => impl_fitter_fits.f k slots (c : Int) ns x.f0 x.f1 x.f2 x.f3 dp) (ok, ns2, slots, c2) ∧ FP x slots d c ns ok ns2 c2 := by
 refine P_indI (fun a b s l ih hb d dp hd h1 c ns hc hn hnd => ?_)
 rw [P_budI] at hb
 have hll := P_budIL_len l
 show ∃ ok ns2 c2, Ev (fun k => impl_fitter_fits.f k slots (c : Int) ns a b s l dp) (ok, ns2, slots, c2) ∧ FP ⟨a, b, s, l⟩ slots d c ns ok ns2 c2
 have hc1 : (c : Int) + 1 = ((c + 1 : Nat) : Int) := by omega
 have bad : Ev (fun k => impl_fitter_fits.j0 k dp true slots ((c + 1 : Nat) : Int) ns a b s l) (false, ns, slots, ((c + 1 : Nat) : Int)) := Ev.step (f := fun _ => some (false, ns, slots, ((c + 1 : Nat) : Int))) (fun k => by simp only [impl_fitter_fits.j0]; rw [if_pos trivial]) (Ev.now _)
 have no : (lookF ⟨a, b, s, l⟩ slots d (300 - c) < 0) → FP ⟨a, b, s, l⟩ slots d c ns false ns ((c + 1 : Nat) : Int) := fun h => ⟨fun h => (by cases h), fun _ => .inl h⟩
 cases d with
 | zero =>
  refine ⟨false, ns, ((c + 1 : Nat) : Int), Ev.step (fun k => ?_) bad, no (by rw [lookF]; omega)⟩
  simp only [impl_fitter_fits.f]
  rw [if_pos (by omega), w64 ((c : Int) + 1) (by omega) (by omega), hc1]
 | succ d =>
  have hlook : lookF ⟨a, b, s, l⟩ slots (d + 1) (300 - c) = if (300 - c : Int) < 1 ∨ fShape a b s l.length slots = false then -1 else lookFL l slots d (300 - c - 1) := by rw [lookF]
  have top : ∀ (q : Bool) r, q = decide (((c + 1 : Nat) : Int) > 300) → Ev (fun k => impl_fitter_fits.j0 k dp q slots ((c + 1 : Nat) : Int) ns a b s l) r → Ev (fun k => impl_fitter_fits.f k slots (c : Int) ns a b s l dp) r := by
   intro q r hq er
   subst hq
   refine Ev.step (fun k => ?_) er
   simp only [impl_fitter_fits.f]
   rw [if_neg (by omega), w64 ((c : Int) + 1) (by omega) (by omega), hc1]
  by_cases hcc : ((c + 1 : Nat) : Int) > 300
  ·exact ⟨false, ns, ((c + 1 : Nat) : Int), top true _ (decide_eq_true hcc).symm bad, no (by rw [hlook, if_pos (.inl (by omega))]; omega)⟩
  replace top := fun r => top false r (decide_eq_false hcc).symm
  have hcc2 : (300 : Int) - c - 1 = 300 - ((c + 1 : Nat) : Int) := by omega
  have fail : fShape a b s l.length slots = false → ∀ r, r = (false, ns, slots, ((c + 1 : Nat) : Int)) → Ev (fun k => impl_fitter_fits.j0 k dp false slots ((c + 1 : Nat) : Int) ns a b s l) r → ∃ ok ns2 c2, Ev (fun k => impl_fitter_fits.f k slots (c : Int) ns a b s l dp) (ok, ns2, slots, c2) ∧ FP ⟨a, b, s, l⟩ slots (d + 1) c ns ok ns2 c2 := by
   intro hf r hr er
   subst hr
   exact ⟨false, ns, ((c + 1 : Nat) : Int), top _ er, no (by rw [hlook, if_pos (.inr hf)]; omega)⟩
  by_cases c3 : a = 3
  ·have hfs : fShape a b s l.length slots = (noT s && (decide (l.length = 0) && (decide (-1 ≤ b) && decide (b ≤ slots - 1)))) := by unfold fShape; rw [if_pos c3]
   have j0 : ∀ r, Ev (fun k => (if (decide (-1 ≤ b) && decide (b ≤ slots - 1)) = true then (if s.toList = ([] : List UInt8) then (if (l.length : Int) > 0 then (some (false, ns, slots, ((c + 1 : Nat) : Int))) else (if b ≥ 0 then ((slices_Contains_int_int.f k ns b).bind fun t178 => (if t178 = true then (some (false, ns, slots, ((c + 1 : Nat) : Int))) else (if ns.length < 17592186044416 then (some (true, (ns ++ [b]), slots, ((c + 1 : Nat) : Int))) else (none)))) else (if ns.length < 17592186044416 then (some (true, (ns ++ [b]), slots, ((c + 1 : Nat) : Int))) else (none)))) else (some (false, ns, slots, ((c + 1 : Nat) : Int)))) else (some (false, ns, slots, ((c + 1 : Nat) : Int))))) r → Ev (fun k => impl_fitter_fits.j0 k dp false slots ((c + 1 : Nat) : Int) ns a b s l) r := by
    intro r er
    refine Ev.step (f := fun k => (impl_inRange.f b (-1) (slots - 1)).bind fun t177 => (if t177 = true then (if s.toList = ([] : List UInt8) then (if (l.length : Int) > 0 then (some (false, ns, slots, ((c + 1 : Nat) : Int))) else (if b ≥ 0 then ((slices_Contains_int_int.f k ns b).bind fun t178 => (if t178 = true then (some (false, ns, slots, ((c + 1 : Nat) : Int))) else (if ns.length < 17592186044416 then (some (true, (ns ++ [b]), slots, ((c + 1 : Nat) : Int))) else (none)))) else (if ns.length < 17592186044416 then (some (true, (ns ++ [b]), slots, ((c + 1 : Nat) : Int))) else (none)))) else (some (false, ns, slots, ((c + 1 : Nat) : Int)))) else (some (false, ns, slots, ((c + 1 : Nat) : Int))))) (fun k => ?_) (Ev.bind (ev_of (impl_inRange_eq _ _ _)) er)
    simp only [impl_fitter_fits.j0]
    rw [if_neg (by decide), if_pos c3, w64 (slots - 1) (by omega) (by omega)]
   by_cases hr : -1 ≤ b ∧ b ≤ slots - 1
   ·have hrt : (decide (-1 ≤ b) && decide (b ≤ slots - 1)) = true := by rw [decide_eq_true hr.1, decide_eq_true hr.2]; rfl
    by_cases ht : s.toList = ([] : List UInt8)
    ·by_cases hl0 : (l.length : Int) > 0
     ·refine fail ?_ _ rfl (j0 _ (ev_pos hrt (ev_pos ht (ev_pos hl0 (Ev.now _)))))
      rw [hfs, decide_eq_false (show ¬ l.length = 0 by omega), Bool.false_and, Bool.and_false]
     ·have hl : l = [] := List.eq_nil_of_length_eq_zero (by omega)
      subst hl
      have hft : fShape a b s ([] : List S67).length slots = true := by
       rw [hfs, hrt]; unfold noT; rw [decide_eq_true ht]; rfl
      rw [hft, if_neg (by simp; omega), lookFL, hcc2] at hlook
      have hsm : slotsM ⟨a, b, s, []⟩ = (if a = 3 ∧ b ≠ -1 then [b] else []) := by rw [slotsM, slotsML, List.append_nil]
      by_cases hb1 : b = -1
      ·rw [if_neg (fun h => h.2 hb1)] at hsm
       refine ⟨true, ns ++ [b], ((c + 1 : Nat) : Int), top _ (j0 _ (ev_pos hrt (ev_pos ht (ev_neg hl0 (ev_neg (by omega) (ev_pos (by omega) (Ev.now _))))))), fun _ => ?_, fun h => (by cases h)⟩
       rw [hlook, hsm, fl_app, List.append_nil]
       refine ⟨by omega, by omega, rfl, ?_, hnd, by rw [List.length_append, List.length_singleton]; omega⟩
       rw [hb1]; unfold fl; simp
      ·rw [if_pos ⟨c3, hb1⟩] at hsm
       have na := nd_app (fl ns) b
       have ec := iContains_ev ns (by omega) b
       have st : ∀ r, Ev (fun _ => (if decide (b ∈ ns) = true then (some (false, ns, slots, ((c + 1 : Nat) : Int))) else (if ns.length < 17592186044416 then (some (true, (ns ++ [b]), slots, ((c + 1 : Nat) : Int))) else (none)))) r → Ev (fun k => impl_fitter_fits.f k slots (c : Int) ns a b s [] dp) r := fun r er => top _ (j0 _ (ev_pos hrt (ev_pos ht (ev_neg hl0 (ev_pos (by omega) (Ev.bind ec er))))))
       by_cases hm : b ∈ ns
       ·refine ⟨false, ns, ((c + 1 : Nat) : Int), st _ (ev_pos (decide_eq_true hm) (Ev.now _)), fun h => (by cases h), fun _ => .inr ?_⟩
        rw [hsm]
        exact fun h => (na.1 h).2 ((fl_mem hb1).2 hm)
       ·refine ⟨true, ns ++ [b], ((c + 1 : Nat) : Int), st _ (ev_neg (by rw [decide_eq_false hm]; decide) (ev_pos (by omega) (Ev.now _))), fun _ => ?_, fun h => (by cases h)⟩
        rw [hlook, hsm, fl_app]
        refine ⟨by omega, by omega, rfl, ?_, na.2 ⟨hnd, fun h => hm ((fl_mem hb1).1 h)⟩, by rw [List.length_append, List.length_singleton]; omega⟩
        have : fl [b] = [b] := by unfold fl; simp [hb1]
        rw [this]
    ·refine fail ?_ _ rfl (j0 _ (ev_pos hrt (ev_neg ht (Ev.now _))))
     rw [hfs]; unfold noT; rw [decide_eq_false ht]; rfl
   ·have hrf : (decide (-1 ≤ b) && decide (b ≤ slots - 1)) = false := by rw [← dec_and]; exact decide_eq_false hr
    refine fail ?_ _ rfl (j0 _ (ev_neg (by rw [hrf]; decide) (Ev.now _)))
    rw [hfs, hrf, Bool.and_false, Bool.and_false]
  ·have hfs : fShape a b s l.length slots = (decide (a ≤ 6) && shOk a b s l.length) := by unfold fShape; rw [if_neg c3]
   have stop : Ev (fun k => impl_fitter_fits.j1 k dp true slots ((c + 1 : Nat) : Int) ns a b s l) (false, ns, slots, ((c + 1 : Nat) : Int)) := Ev.step (f := fun _ => some (false, ns, slots, ((c + 1 : Nat) : Int))) (fun k => by simp only [impl_fitter_fits.j1]; rw [if_pos trivial]) (Ev.now _)
   by_cases h6 : a > 6
   ·refine fail (by rw [hfs, decide_eq_false (by omega), Bool.false_and]) _ rfl (Ev.step (fun k => ?_) stop)
    simp only [impl_fitter_fits.j0]
    rw [if_neg (by decide), if_neg c3, if_pos h6]
   rw [decide_eq_true (show a ≤ 6 by omega), Bool.true_and] at hfs
   have es := impl_shapeOk_ev a b s l.length (by omega)
   have j0 : ∀ r, Ev (fun k => impl_fitter_fits.j1 k dp (!(shOk a b s l.length)) slots ((c + 1 : Nat) : Int) ns a b s l) r → Ev (fun k => impl_fitter_fits.j0 k dp false slots ((c + 1 : Nat) : Int) ns a b s l) r := by
    intro r er
    refine Ev.step (f := fun k => (impl_shapeOk.f k a b s (l.length : Int)).bind fun t185 => (impl_fitter_fits.j1 k dp (!t185) slots ((c + 1 : Nat) : Int) ns a b s l)) (fun k => ?_) (Ev.bind es er)
    simp only [impl_fitter_fits.j0]
    rw [if_neg (by decide), if_neg c3, if_neg h6]
   cases hs : shOk a b s l.length with
   | false =>
    rw [hs] at j0 hfs
    exact fail hfs _ rfl (j0 _ stop)
   | true =>
    rw [hs] at j0 hfs
    rw [hfs, if_neg (by simp; omega), hcc2] at hlook
    have hsm : slotsM ⟨a, b, s, l⟩ = slotsML l := by rw [slotsM, if_neg (fun h => c3 h.1), List.nil_append]
    obtain ⟨ok, ns2, c2, e, q1, q2⟩ := fp_loop slots dp d (by omega) h1 l (by omega) (fun x hx c ns hc hn hnd => ih x hx (by have := P_budI_mem l x hx; omega) d (dp + 1) (by omega) (by omega) c ns hc hn hnd) l.length 0 (c + 1) ns (by omega) (by omega) (by omega) hnd
    rw [List.drop_zero] at q1 q2
    refine ⟨ok, ns2, c2, top _ (j0 _ (Ev.step (f := fun k => impl_fitter_fits.l0 k dp l (l.length : Int) 0 slots ((c + 1 : Nat) : Int) ns) (fun k => by simp only [impl_fitter_fits.j1]; rw [if_neg (by decide)]) e)), ?_⟩
    unfold FP
    rw [hlook, hsm]
    exact ⟨q1, q2⟩
theorem impl_PatFits_ev (x : S67) (slots : Int) (hb : (P_budI x : Int) ≤ 2097152) : Ev (fun k => impl_PatFits.f k x.f0 x.f1 x.f2 x.f3 slots) (fitsM x slots) := by
 unfold impl_PatFits.f fitsM
 refine Ev.bind (ev_of (impl_inRange_eq _ _ _)) ?_
 by_cases hs : 0 ≤ slots ∧ slots ≤ 400
 ·obtain ⟨ok, ns2, c2, e, q1, q2⟩ := fp_all slots hs x hb 10 1 (by omega) (by omega) 0 [] (by omega) (by simp) List.nodup_nil
  rw [decide_eq_true hs.1, decide_eq_true hs.2]
  refine ev_pos rfl (Ev.bind e (ev_cast ?_ (Ev.now _)))
  show ok = _
  have e300 : (300 : Int) - ((0 : Nat) : Int) = 300 := by omega
  have e0 : fl [] = [] := rfl
  rw [e300, e0, List.nil_append] at q1 q2
  cases ok with
  | true =>
   obtain ⟨a1, a2, a3, a4, a5, a6⟩ := q1 rfl
   rw [decide_eq_true a5, decide_eq_true (show 0 ≤ lookF x slots 10 300 by omega)]; rfl
  | false =>
   rcases q2 rfl with h | h
   ·rw [decide_eq_false (show ¬ 0 ≤ lookF x slots 10 300 by omega)]; rfl
   ·rw [decide_eq_false h, Bool.and_false, Bool.and_false]
 ·have hf : (decide (0 ≤ slots) && decide (slots ≤ 400)) = false := by
   rw [← dec_and]; exact decide_eq_false hs
  rw [hf]
  exact ev_neg (by decide) (Ev.now _)
theorem spec_l4Op_eq (s : ByteArray) : spec_l4Op.f s = some (opL s.toList) := by
 unfold spec_l4Op.f opL
 generalize s.toList = l
 by_cases h1 : l = [43]
 ·rw [if_pos h1]; simp [h1]
 rw [if_neg h1]
 by_cases h2 : l = [45]
 ·rw [if_pos h2]; simp [h2]
 rw [if_neg h2]
 by_cases h3 : l = [42]
 ·rw [if_pos h3]; simp [h3]
 rw [if_neg h3]
 by_cases h4 : l = [61, 61]
 ·rw [if_pos h4]; simp [h4]
 rw [if_neg h4]
 by_cases h5 : l = [60] <;> simp [h1, h2, h3, h4, h5]
def plainM (x : S64) : Bool := noT x.f2 && (x.f3 == 0)
def toM (m : Nat) (x : S64) : Bool := noT x.f2 && (decide (0 ≤ x.f3) && decide (x.f3 ≤ (m : Int) - 1))
def callM (c : List S44) (x : S64) : Bool := if impl_fnAt.ix c x.f2 0 ≥ 0 then (if (rd_T44 c (impl_fnAt.ix c x.f2 0)).f1 = x.f1 then x.f3 == 0 else false) else false
def insM (c : List S44) (p : List S67) (m : Nat) (sl : Int) (x : S64) : Bool :=
 if x.f0 = 1 then plainM x && (decide (0 ≤ x.f1) && decide (x.f1 ≤ 1000000000000))
 else if x.f0 = 2 then decide (x.f1 = 0) && (xatomM x.f2 && (x.f3 == 0))
 else if x.f0 = 3 then plainM x && (decide (0 ≤ x.f1) && decide (x.f1 ≤ wrap64 (sl - 1)))
 else if x.f0 = 4 ∨ x.f0 = 5 then plainM x && (decide (0 ≤ x.f1) && decide (x.f1 ≤ 20))
 else if x.f0 = 6 then plainM x && (decide (2 ≤ x.f1) && decide (x.f1 ≤ 6))
 else if x.f0 = 7 then decide (x.f1 = 0) && (opL x.f2.toList && (x.f3 == 0))
 else if x.f0 = 8 then callM c x
 else if x.f0 = 9 then toM m x && ((decide (0 ≤ x.f1) && decide (x.f1 ≤ (p.length : Int) - 1)) && fitsM (rd_T67 p x.f1) sl)
 else if x.f0 = 10 then toM m x && (x.f1 == 0)
 else if x.f0 = 11 ∨ x.f0 = 12 then plainM x && (x.f1 == 0)
 else false
theorem call_ev (c : List S44) (hc : (c.length : Int) ≤ 4194304) (o n : Int) (s : ByteArray) (t : Int) {g : Nat → Option Bool} (f : Int → S44)
  (hf : ∀ i : Int, f i = rd_T44 c i) (hg : ∀ k, g k = (if impl_fnAt.ix c s 0 ≥ 0 then (if (f (impl_fnAt.ix c s 0)).f1 = n then (some (t == 0)) else (some false)) else (some false))) : Ev g (callM c ⟨o, n, s, t⟩) := by
 obtain rfl : f = rd_T44 c := funext hf
 unfold callM
 obtain rfl : g = _ := funext hg
 show Ev _ (if impl_fnAt.ix c s 0 ≥ 0 then (if (rd_T44 c (impl_fnAt.ix c s 0)).f1 = n then t == 0 else false) else false)
 by_cases h0 : impl_fnAt.ix c s 0 ≥ 0
 ·by_cases h1 : (rd_T44 c (impl_fnAt.ix c s 0)).f1 = n
  ·exact evT h0 (evT h1 (Ev.now _))
  ·exact evT h0 (evF h1 (Ev.now _))
 ·exact evF h0 (Ev.now _)
theorem impl_takesOf_ev (x : S64) : Ev (fun k => impl_takesOf.f k x.f0 x.f1 x.f2 x.f3) (takesM x) := by
 obtain ⟨o, n, s, t⟩ := x
 dsimp only
 have key : ∀ q : Bool, (q = true ↔ o = 4 ∨ o = 5 ∨ o = 6 ∨ o = 8) → Ev (fun k => impl_takesOf.j0 k o q o n s t) (takesM ⟨o, n, s, t⟩) := by
  intro q hq
  refine Ev.step (fun k => by simp only [impl_takesOf.j0]; rfl) ?_
  unfold takesM
  dsimp only
  by_cases c : o = 4 ∨ o = 5 ∨ o = 6 ∨ o = 8
  ·rw [if_pos c]; exact ev_pos (hq.2 c) (Ev.now _)
  refine ev_neg (fun h => c (hq.1 h)) ?_
  rw [if_neg c]
  by_cases c7 : o = 7
  ·exact evT c7 (Ev.now _)
  refine evF c7 ?_
  by_cases c9 : o = 9
  ·rw [if_pos (show o = 9 ∨ o = 12 from .inl c9)]; exact ev_pos c9 (Ev.now _)
  refine ev_neg c9 ?_
  by_cases c12 : o = 12
  ·rw [if_pos (show o = 9 ∨ o = 12 from .inr c12)]; exact ev_pos c12 (Ev.now _)
  ·rw [if_neg (show ¬ (o = 9 ∨ o = 12) by omega)]; exact ev_neg c12 (Ev.now _)
 unfold impl_takesOf.f
 by_cases c4 : o = 4
 ·exact ev_pos c4 (key _ (by rw [beq_iff_eq]; omega))
 refine ev_neg c4 ?_
 by_cases c5 : o = 5
 ·exact ev_pos c5 (key _ (by rw [beq_iff_eq]; omega))
 refine ev_neg c5 ?_
 by_cases c6 : o = 6
 ·exact ev_pos c6 (key _ (by rw [beq_iff_eq]; omega))
 ·exact ev_neg c6 (key _ (by rw [beq_iff_eq]; omega))
def comeI (hs : List Int) (b : Bool) (a h : Int) : List Int × Bool := if a ≥ (hs.length : Int) ∨ h > 300 then (hs, true) else if rd hs a < 0 then (hs.set a.toNat h, b) else if rd hs a = h then (hs, b) else (hs, true)
theorem comeI_ev (hs : List Int) (b : Bool) (a h : Int) (ha : 0 ≤ a) : Ev (fun k => impl_climber_comes.f k hs b a h) (comeI hs b a h) := by
 have key : ∀ q : Bool, (q = true ↔ a ≥ (hs.length : Int) ∨ h > 300) → Ev (fun k => impl_climber_comes.j0 k a h q hs b) (comeI hs b a h) := by
  intro q hq
  refine Ev.step (fun k => by simp only [impl_climber_comes.j0]; rfl) ?_
  unfold comeI
  by_cases c : a ≥ (hs.length : Int) ∨ h > 300
  ·rw [if_pos c]; exact ev_pos (hq.2 c) (Ev.now _)
  ·rw [if_neg c]
   refine ev_neg (fun h => c (hq.1 h)) (ev_pos ha (ev_pos (by omega) ?_))
   by_cases c1 : rd hs a < 0
   ·exact evT c1 (Ev.now _)
   ·refine evF c1 ?_
    by_cases c2 : rd hs a = h
    ·exact evT c2 (Ev.now _)
    ·exact evF c2 (Ev.now _)
 unfold impl_climber_comes.f
 by_cases c : a ≥ (hs.length : Int)
 ·exact ev_pos c (key _ (by simp [c]))
 ·exact ev_neg c (key _ (by rw [decide_eq_true_iff]; exact ⟨fun h => .inr h, fun h => h.elim (fun h => absurd h c) id⟩))
theorem comeI_len (hs : List Int) (b : Bool) (a h : Int) : (comeI hs b a h).1.length = hs.length := by
 unfold comeI
 split
 ·rfl
 split
 ·exact List.length_set
 split <;> rfl
theorem comeI_bad (hs : List Int) (a h : Int) : (comeI hs true a h).2 = true := by
 unfold comeI
 split
 ·rfl
 split
 ·rfl
 split <;> rfl
def leaveI (hs : List Int) (b : Bool) (i : Int) (x : S64) : List Int × Bool :=
 if rd hs i < takesM x ∨ ((x.f0 = 9 ∨ x.f0 = 10) ∧ x.f3 ≤ i) then (hs, true)
 else if x.f0 = 9 then comeI (comeI hs b (wrap64 (i + 1)) (wrap64 (rd hs i - 1))).1 (comeI hs b (wrap64 (i + 1)) (wrap64 (rd hs i - 1))).2 x.f3 (rd hs i)
 else if x.f0 = 10 then comeI hs b x.f3 (rd hs i)
 else if x.f0 = 11 then (hs, b)
 else if x.f0 = 12 then (hs, b || (rd hs i != 1))
 else comeI hs b (wrap64 (i + 1)) (wrap64 (wrap64 (rd hs i - takesM x) + 1))
theorem leaveI_len (hs : List Int) (b : Bool) (i : Int) (x : S64) : (leaveI hs b i x).1.length = hs.length := by
 unfold leaveI
 split
 ·rfl
 split
 ·rw [comeI_len, comeI_len]
 split
 ·rw [comeI_len]
 split
 ·rfl
 split
 ·rfl
 ·rw [comeI_len]
theorem leaveI_ev (hs : List Int) (b : Bool) (i : Int) (x : S64) (h0 : 0 ≤ i) (h1 : i < (hs.length : Int)) (hl : (hs.length : Int) ≤ 4194304) (hto : x.f0 = 9 ∨ x.f0 = 10 → 0 ≤ x.f3) :
  Ev (fun k => impl_climber_leaves.f k hs b i x.f0 x.f1 x.f2 x.f3) (leaveI hs b i x) := by
 have et := impl_takesOf_ev x
 obtain ⟨o, n, s, t⟩ := x
 dsimp only at *
 have ew : wrap64 (i + 1) = i + 1 := w64 _ (by omega) (by omega)
 have key : ∀ q : Bool, (q = true ↔ rd hs i < takesM ⟨o, n, s, t⟩ ∨ ((o = 9 ∨ o = 10) ∧ t ≤ i)) → Ev (fun k => impl_climber_leaves.j0 k i (rd hs i) q hs b o n s t) (leaveI hs b i ⟨o, n, s, t⟩) := by
  intro q hq
  refine Ev.step (fun k => by simp only [impl_climber_leaves.j0]; rfl) ?_
  unfold leaveI
  dsimp only
  by_cases c : rd hs i < takesM ⟨o, n, s, t⟩ ∨ ((o = 9 ∨ o = 10) ∧ t ≤ i)
  ·rw [if_pos c]; exact ev_pos (hq.2 c) (Ev.now _)
  refine ev_neg (fun h => c (hq.1 h)) ?_
  rw [if_neg c]
  by_cases c9 : o = 9
  ·exact evT c9 (Ev.bind (comeI_ev _ _ _ _ (by omega)) (Ev.bind (comeI_ev _ _ _ _ (hto (.inl c9))) (Ev.now _)))
  refine evF c9 ?_
  by_cases c10 : o = 10
  ·exact evT c10 (Ev.bind (comeI_ev _ _ _ _ (hto (.inr c10))) (Ev.now _))
  refine evF c10 ?_
  by_cases c11 : o = 11
  ·exact evT c11 (Ev.now _)
  refine evF c11 ?_
  by_cases c12 : o = 12
  ·refine evT c12 ?_
   cases b with
   | true => exact ev_pos rfl (Ev.now _)
   | false => exact ev_neg (by decide) (Ev.now _)
  refine evF c12 ?_
  exact Ev.bind et (Ev.bind (comeI_ev _ _ _ _ (by omega)) (Ev.now _))
 unfold impl_climber_leaves.f
 refine ev_pos h0 (ev_pos h1 (Ev.bind et ?_))
 by_cases c : rd hs i < takesM ⟨o, n, s, t⟩
 ·exact ev_pos c (key _ (by simp [c]))
 refine ev_neg c ?_
 by_cases c9 : o = 9
 ·exact ev_pos c9 (key _ (by rw [decide_eq_true_iff]; exact ⟨fun h => .inr ⟨.inl c9, h⟩, fun h => h.elim (fun h => absurd h c) (fun h => h.2)⟩))
 refine ev_neg c9 ?_
 by_cases c10 : o = 10
 ·exact ev_pos c10 (key _ (by rw [decide_eq_true_iff]; exact ⟨fun h => .inr ⟨.inr c10, h⟩, fun h => h.elim (fun h => absurd h c) (fun h => h.2)⟩))
 ·exact ev_neg c10 (key _ ⟨fun h => (by cases h), fun h => h.elim (fun h => absurd h c) (fun h => absurd h.1 (by omega))⟩)
def runI : List S64 → Int → List Int → Bool → List Int × Bool
 | [], _, hs, b => (hs, !b)
 | x :: r, i, hs, b => if b = true then ([], false) else if rd hs i < 0 then ([], false) else runI r (i + 1) (leaveI hs b i x).1 (leaveI hs b i x).2
theorem hI_l1 (L : List S64) (hL : (L.length : Int) ≤ 4194304) (hto : ∀ x ∈ L, x.f0 = 9 ∨ x.f0 = 10 → 0 ≤ x.f3) (d : Nat) : ∀ (i : Nat) (hs : List Int) (b : Bool), i + d = L.length → hs.length = L.length → Ev (fun k => impl_heightsOf.l1 k L (L.length : Int) i hs b) (runI (L.drop i) i hs b) := by
 induction d with
 | zero =>
  intro i hs b hi hh
  rw [List.drop_eq_nil_of_le (by omega), runI]
  refine Ev.step (f := fun _ => some (hs, !b)) (fun k => ?_) (Ev.now _)
  simp only [impl_heightsOf.l1]; rw [if_neg (by omega)]
 | succ d ih =>
  intro i hs b hi hh
  have hlt : i < L.length := by omega
  have hrd := rd_ii L i hlt
  have hm := hto _ (List.getElem_mem hlt)
  rw [List.drop_eq_getElem_cons hlt, runI]
  generalize L[i] = x at *
  cases b with
  | true =>
   rw [if_pos rfl]
   refine Ev.step (f := fun _ => some ([], false)) (fun k => ?_) (Ev.now _)
   simp only [impl_heightsOf.l1]; rw [if_pos (by omega), if_pos (by omega), if_pos (by omega), if_pos trivial]
  | false =>
   rw [if_neg (by decide)]
   refine Ev.step (f := fun k => if (rd hs i) < 0 then (some (([] : List Int), false)) else ((impl_climber_leaves.f k hs false i x.f0 x.f1 x.f2 x.f3).bind fun bt => (impl_heightsOf.l1 k L (L.length : Int) (wrap64 ((i : Int) + 1)) bt.1 bt.2))) (fun k => ?_) ?_
   ·simp only [impl_heightsOf.l1]; rw [if_pos (by omega), if_pos (by omega), if_pos (by omega), if_neg (by decide), if_pos (by omega), hrd]
   ·by_cases c : rd hs i < 0
    ·rw [if_pos c]; exact ev_pos c (Ev.now _)
    ·rw [if_neg c]
     refine ev_neg c (Ev.bind (leaveI_ev hs false i x (by omega) (by omega) (by omega) hm) ?_)
     rw [w64 _ (by omega) (by omega)]
     exact ih (i + 1) _ _ (by omega) (by rw [leaveI_len]; exact hh)
theorem rep_step (n i : Nat) (v u : Int) (hi : i < n) : (List.replicate i v ++ List.replicate (n - i) u).set i v = List.replicate (i + 1) v ++ List.replicate (n - (i + 1)) u := by
 obtain ⟨m, hm⟩ : ∃ m, n - i = m + 1 := ⟨n - i - 1, by omega⟩
 rw [hm, show n - (i + 1) = m by omega, List.replicate_succ, List.set_append_right _ _ (by simp), List.length_replicate, Nat.sub_self, List.set_cons_zero, List.replicate_succ', List.append_assoc]
 rfl
def heightsI (L : List S64) : List Int × Bool := runI L 0 (comeI (List.replicate L.length (-1)) false 0 0).1 (comeI (List.replicate L.length (-1)) false 0 0).2
theorem heightsOf_ev (f : S44) (hL : (f.f3.length : Int) ≤ 4194304) (hto : ∀ x ∈ f.f3, x.f0 = 9 ∨ x.f0 = 10 → 0 ≤ x.f3) : Ev (fun k => impl_heightsOf.f k [f]) (heightsI f.f3) := by
 have hend : Ev (fun k => impl_heightsOf.l0 k [f] (f.f3.length : Int) (f.f3.length : Int) (List.replicate f.f3.length (-1)) false) (heightsI f.f3) := by
  refine Ev.step (f := fun k => (impl_climber_comes.f k (List.replicate f.f3.length (-1)) false 0 0).bind fun bt => (impl_heightsOf.l1 k f.f3 (f.f3.length : Int) 0 bt.1 bt.2)) (fun k => ?_) (Ev.bind (comeI_ev _ _ _ _ (by omega)) ?_)
  ·simp only [impl_heightsOf.l0]; rw [if_neg (by omega)]
   rfl
  ·have := hI_l1 f.f3 hL hto f.f3.length 0 (comeI (List.replicate f.f3.length (-1)) false 0 0).1 (comeI (List.replicate f.f3.length (-1)) false 0 0).2 (by omega) (by rw [comeI_len, List.length_replicate])
   rw [List.drop_zero] at this
   exact this
 have hl0 : ∀ (d i : Nat), i + d = f.f3.length → Ev (fun k => impl_heightsOf.l0 k [f] (f.f3.length : Int) i (List.replicate i (-1) ++ List.replicate (f.f3.length - i) 0) false) (heightsI f.f3) := by
  intro d
  induction d with
  | zero =>
   intro i hi
   have e : i = f.f3.length := by omega
   rw [e, Nat.sub_self, List.replicate_zero, List.append_nil]
   exact hend
  | succ d ih =>
   intro i hi
   refine Ev.step (fun k => ?_) (ih (i + 1) (by omega))
   simp only [impl_heightsOf.l0]
   rw [if_pos (by omega), if_pos (by omega), if_pos (by simp; omega), w64 _ (by omega) (by omega), Int.toNat_natCast, rep_step f.f3.length i (-1) 0 (by omega)]
   rfl
 have := hl0 f.f3.length 0 (by omega)
 unfold impl_heightsOf.f
 refine ev_pos (by simp) (ev_pos (by omega) (ev_pos ?_ ?_))
 ·show ((f.f3.length : Int)).toNat ≤ _
  rw [Int.toNat_natCast]; omega
 ·refine Ev.bind (Ev.now _) ?_
  have e : (((rd_T44 [f] 0).f3.length : Nat) : Int).toNat = f.f3.length := by rw [Int.toNat_natCast]; rfl
  rw [e, List.length_replicate]
  rw [List.replicate_zero, List.nil_append, Nat.sub_zero] at this
  exact this
theorem spec_l9Takes_ev (x : S64) : Ev (fun k => spec_l9Takes.f k x.f0 x.f1 x.f2 x.f3) (takesM x, leavM x) := by
 obtain ⟨o, n, s, t⟩ := x
 dsimp only
 have key1 : ∀ q : Bool, (q = true ↔ o = 4 ∨ o = 5 ∨ o = 6 ∨ o = 8) → ¬ (o = 1 ∨ o = 2 ∨ o = 3) → Ev (fun k => spec_l9Takes.j1 k o q o n s t) (takesM ⟨o, n, s, t⟩, leavM ⟨o, n, s, t⟩) := by
  intro q hq hn
  refine Ev.step (fun k => by simp only [spec_l9Takes.j1]; rfl) ?_
  unfold takesM leavM
  dsimp only
  by_cases c : o = 4 ∨ o = 5 ∨ o = 6 ∨ o = 8
  ·refine ev_pos (hq.2 c) (ev_cast ?_ (Ev.now _))
   rw [if_pos c, if_pos (show 1 ≤ o ∧ o ≤ 8 by omega)]
  refine ev_neg (fun h => c (hq.1 h)) ?_
  by_cases c7 : o = 7
  ·refine ev_pos c7 (ev_cast ?_ (Ev.now _))
   rw [if_neg c, if_pos c7, if_pos (show 1 ≤ o ∧ o ≤ 8 by omega)]
  refine ev_neg c7 ?_
  by_cases c9 : o = 9
  ·refine ev_pos c9 (ev_cast ?_ (Ev.now _))
   rw [if_neg c, if_neg c7, if_pos (show o = 9 ∨ o = 12 from .inl c9), if_neg (show ¬ (1 ≤ o ∧ o ≤ 8) by omega)]
  refine ev_neg c9 ?_
  by_cases c12 : o = 12
  ·refine ev_pos c12 (ev_cast ?_ (Ev.now _))
   rw [if_neg c, if_neg c7, if_pos (show o = 9 ∨ o = 12 from .inr c12), if_neg (show ¬ (1 ≤ o ∧ o ≤ 8) by omega)]
  ·refine ev_neg c12 (ev_cast ?_ (Ev.now _))
   rw [if_neg c, if_neg c7, if_neg (show ¬ (o = 9 ∨ o = 12) by omega), if_neg (show ¬ (1 ≤ o ∧ o ≤ 8) by omega)]
 have key : ∀ q : Bool, (q = true ↔ o = 1 ∨ o = 2 ∨ o = 3) → Ev (fun k => spec_l9Takes.j0 k o q o n s t) (takesM ⟨o, n, s, t⟩, leavM ⟨o, n, s, t⟩) := by
  intro q hq
  refine Ev.step (fun k => by simp only [spec_l9Takes.j0]; rfl) ?_
  by_cases c : o = 1 ∨ o = 2 ∨ o = 3
  ·refine ev_pos (hq.2 c) (ev_cast ?_ (Ev.now _))
   unfold takesM leavM
   dsimp only
   rw [if_neg (by omega), if_neg (by omega), if_neg (by omega), if_pos (by omega)]
  refine ev_neg (fun h => c (hq.1 h)) ?_
  by_cases c4 : o = 4
  ·exact ev_pos c4 (key1 _ (by rw [beq_iff_eq]; omega) c)
  refine ev_neg c4 ?_
  by_cases c5 : o = 5
  ·exact ev_pos c5 (key1 _ (by rw [beq_iff_eq]; omega) c)
  refine ev_neg c5 ?_
  by_cases c6 : o = 6
  ·exact ev_pos c6 (key1 _ (by rw [beq_iff_eq]; omega) c)
  ·exact ev_neg c6 (key1 _ (by rw [beq_iff_eq]; omega) c)
 unfold spec_l9Takes.f
 by_cases c1 : o = 1
 ·exact ev_pos c1 (key _ (by rw [beq_iff_eq]; omega))
 refine ev_neg c1 ?_
 by_cases c2 : o = 2
 ·exact ev_pos c2 (key _ (by rw [beq_iff_eq]; omega))
 ·exact ev_neg c2 (key _ (by rw [beq_iff_eq]; omega))
def comeS (hs : List Int) (a h : Int) : Bool × List Int := if rd hs a = -1 then (true, hs.set a.toNat h) else (rd hs a == h, hs)
theorem spec_l9Come_eq (hs : List Int) (a h : Int) (h0 : 0 ≤ a) (h1 : a < (hs.length : Int)) : spec_l9Come.f hs a h = some (comeS hs a h) := by
 obtain ⟨i, rfl⟩ : ∃ i : Nat, a = (i : Int) := ⟨a.toNat, by omega⟩
 unfold spec_l9Come.f comeS
 rw [if_pos h0, if_pos h1]
 by_cases c : rd hs i = -1
 ·rw [if_pos c, if_pos c, Option.bind_some, Int.toNat_natCast, rd_set hs i h i (by omega), if_pos rfl, beq_self_eq_true]
 ·rw [if_neg c, if_neg c]
theorem comeS_len (hs : List Int) (a h : Int) : (comeS hs a h).2.length = hs.length := by
 unfold comeS
 split
 ·exact List.length_set
 ·rfl
def stepS (n : Int) (hs : List Int) (i : Int) (x : S64) : List Int × Bool :=
 if rd hs i < takesM x ∨ rd hs i > 300 ∨ (x.f0 = 12 ∧ rd hs i ≠ 1) then (hs, false)
 else if x.f0 = 11 ∨ x.f0 = 12 then (hs, true)
 else if x.f0 = 10 then ((comeS hs x.f3 (rd hs i)).2, (comeS hs x.f3 (rd hs i)).1)
 else if x.f0 = 9 then (if (comeS hs x.f3 (rd hs i)).1 = true then (if wrap64 (i + 1) < n then ((comeS (comeS hs x.f3 (rd hs i)).2 (wrap64 (i + 1)) (wrap64 (rd hs i - 1))).2, (comeS (comeS hs x.f3 (rd hs i)).2 (wrap64 (i + 1)) (wrap64 (rd hs i - 1))).1) else ((comeS hs x.f3 (rd hs i)).2, false)) else ((comeS hs x.f3 (rd hs i)).2, false))
 else if wrap64 (i + 1) < n then ((comeS hs (wrap64 (i + 1)) (wrap64 (wrap64 (rd hs i - takesM x) + leavM x))).2, (comeS hs (wrap64 (i + 1)) (wrap64 (wrap64 (rd hs i - takesM x) + leavM x))).1) else (hs, false)
def runS : List S64 → Int → Int → List Int → List Int × Bool
 | [], _, _, hs => (hs, true)
 | x :: r, n, i, hs => if (stepS n hs i x).2 = true then runS r n (i + 1) (stepS n hs i x).1 else ((stepS n hs i x).1, false)
theorem sH_l1 (L : List S64) (a0 : ByteArray) (a1 a2 : Int) (hL : (L.length : Int) ≤ 4194304) (hto : ∀ x ∈ L, x.f0 = 9 ∨ x.f0 = 10 → 0 ≤ x.f3 ∧ x.f3 < (L.length : Int)) (d : Nat) : ∀ (i : Nat) (hs : List Int), i + d = L.length → hs.length = L.length → Ev (fun k => spec_l9Heights.l1 k hs i a0 a1 a2 L) (runS (L.drop i) L.length i hs) := by
 induction d with
 | zero =>
  intro i hs hi hh
  rw [List.drop_eq_nil_of_le (by omega), runS]
  refine Ev.step (f := fun _ => some (hs, true)) (fun k => ?_) (Ev.now _)
  simp only [spec_l9Heights.l1]; rw [if_neg (by omega)]
 | succ d ih =>
  intro i hs hi hh
  have hlt : i < L.length := by omega
  have hrd := rd_ii L i hlt
  have hm := hto _ (List.getElem_mem hlt)
  have ew : wrap64 ((i : Int) + 1) = ((i + 1 : Nat) : Int) := w64 _ (by omega) (by omega)
  have next : ∀ hs' : List Int, hs'.length = L.length → Ev (fun k => spec_l9Heights.l1 k hs' (wrap64 ((i : Int) + 1)) a0 a1 a2 L) (runS (L.drop (i + 1)) L.length ((i : Int) + 1) hs') := fun hs' h' => by
   rw [ew]; exact ih (i + 1) hs' (by omega) h'
  rw [List.drop_eq_getElem_cons hlt, runS]
  have et := spec_l9Takes_ev L[i]
  generalize L[i] = x at *
  generalize hrn : L.drop (i + 1) = rn at *
  obtain ⟨o, n, s, t⟩ := x
  dsimp only at *
  have j3 : ∀ q : Bool, (q = true ↔ o = 11 ∨ o = 12) → ¬ (rd hs i < takesM ⟨o, n, s, t⟩ ∨ rd hs i > 300 ∨ (o = 12 ∧ rd hs i ≠ 1)) → Ev (fun k => spec_l9Heights.j3 k hs i (takesM ⟨o, n, s, t⟩) (leavM ⟨o, n, s, t⟩) (rd hs i) true o q a0 a1 a2 L o n s t) (if (stepS L.length hs i ⟨o, n, s, t⟩).2 = true then runS rn L.length ((i : Int) + 1) (stepS L.length hs i ⟨o, n, s, t⟩).1 else ((stepS L.length hs i ⟨o, n, s, t⟩).1, false)) := by
   intro q hq hc
   refine Ev.step (fun k => by simp only [spec_l9Heights.j3]; rfl) ?_
   have e0 := fun (X Y : List Int × Bool) => show (if rd hs i < takesM ⟨o, n, s, t⟩ ∨ rd hs i > 300 ∨ (o = 12 ∧ rd hs i ≠ 1) then X else Y) = Y from if_neg hc
   by_cases c11 : o = 11 ∨ o = 12
   ·have es : stepS L.length hs i ⟨o, n, s, t⟩ = (hs, true) := by unfold stepS; dsimp only; rw [e0, if_pos c11]
    rw [es]
    exact ev_pos (hq.2 c11) (ev_pos trivial (next hs hh))
   refine ev_neg (fun h => c11 (hq.1 h)) ?_
   by_cases c10 : o = 10
   ·have es : stepS L.length hs i ⟨o, n, s, t⟩ = ((comeS hs t (rd hs i)).2, (comeS hs t (rd hs i)).1) := by unfold stepS; dsimp only; rw [e0, if_neg c11, if_pos c10]
    rw [es]
    obtain ⟨m0, m1⟩ := hm (.inr c10)
    refine ev_pos c10 (Ev.bind (ev_of (spec_l9Come_eq hs t (rd hs i) m0 (by omega))) ?_)
    (try dsimp only)
    by_cases cc : (comeS hs t (rd hs i)).1 = true
    ·exact evT cc (next _ (by rw [comeS_len]; exact hh))
    ·exact evF cc (Ev.now _)
   refine ev_neg c10 ?_
   by_cases c9 : o = 9
   ·obtain ⟨m0, m1⟩ := hm (.inl c9)
    refine ev_pos c9 (Ev.bind (ev_of (spec_l9Come_eq hs t (rd hs i) m0 (by omega))) ?_)
    (try dsimp only)
    by_cases cc : (comeS hs t (rd hs i)).1 = true
    ·refine ev_pos cc ?_
     rw [hh]
     by_cases cn : wrap64 ((i : Int) + 1) < (L.length : Int)
     ·have es : stepS L.length hs i ⟨o, n, s, t⟩ = ((comeS (comeS hs t (rd hs i)).2 (wrap64 ((i : Int) + 1)) (wrap64 (rd hs i - 1))).2, (comeS (comeS hs t (rd hs i)).2 (wrap64 ((i : Int) + 1)) (wrap64 (rd hs i - 1))).1) := by unfold stepS; dsimp only; rw [e0, if_neg c11, if_neg c10, if_pos c9, if_pos cc, if_pos cn]
      rw [es]
      refine ev_pos cn (Ev.bind (ev_of (spec_l9Come_eq _ _ _ (by omega) (by rw [comeS_len]; omega))) ?_)
      (try dsimp only)
      by_cases cd : (comeS (comeS hs t (rd hs i)).2 (wrap64 ((i : Int) + 1)) (wrap64 (rd hs i - 1))).1 = true
      ·exact evT cd (next _ (by rw [comeS_len, comeS_len]; exact hh))
      ·exact evF cd (Ev.now _)
     ·have es : stepS L.length hs i ⟨o, n, s, t⟩ = ((comeS hs t (rd hs i)).2, false) := by unfold stepS; dsimp only; rw [e0, if_neg c11, if_neg c10, if_pos c9, if_pos cc, if_neg cn]
      rw [es]
      exact ev_neg cn (ev_cast (if_neg Bool.false_ne_true).symm (Ev.now _))
    ·have es : stepS L.length hs i ⟨o, n, s, t⟩ = ((comeS hs t (rd hs i)).2, false) := by unfold stepS; dsimp only; rw [e0, if_neg c11, if_neg c10, if_pos c9, if_neg cc]
     rw [es]
     exact ev_neg cc (ev_cast (if_neg Bool.false_ne_true).symm (Ev.now _))
   refine ev_neg c9 ?_
   rw [hh]
   by_cases cn : wrap64 ((i : Int) + 1) < (L.length : Int)
   ·have es : stepS L.length hs i ⟨o, n, s, t⟩ = ((comeS hs (wrap64 ((i : Int) + 1)) (wrap64 (wrap64 (rd hs i - takesM ⟨o, n, s, t⟩) + leavM ⟨o, n, s, t⟩))).2, (comeS hs (wrap64 ((i : Int) + 1)) (wrap64 (wrap64 (rd hs i - takesM ⟨o, n, s, t⟩) + leavM ⟨o, n, s, t⟩))).1) := by unfold stepS; dsimp only; rw [e0, if_neg c11, if_neg c10, if_neg c9, if_pos cn]
    rw [es]
    refine ev_pos cn (Ev.bind (ev_of (spec_l9Come_eq _ _ _ (by omega) (by omega))) ?_)
    (try dsimp only)
    by_cases cd : (comeS hs (wrap64 ((i : Int) + 1)) (wrap64 (wrap64 (rd hs i - takesM ⟨o, n, s, t⟩) + leavM ⟨o, n, s, t⟩))).1 = true
    ·exact evT cd (next _ (by rw [comeS_len]; exact hh))
    ·exact evF cd (Ev.now _)
   ·have es : stepS L.length hs i ⟨o, n, s, t⟩ = (hs, false) := by unfold stepS; dsimp only; rw [e0, if_neg c11, if_neg c10, if_neg c9, if_neg cn]
    rw [es]
    exact ev_neg cn (ev_cast (if_neg Bool.false_ne_true).symm (Ev.now _))
  have j2 : ∀ q : Bool, (q = true ↔ rd hs i < takesM ⟨o, n, s, t⟩ ∨ rd hs i > 300 ∨ (o = 12 ∧ rd hs i ≠ 1)) → Ev (fun k => spec_l9Heights.j2 k hs i (takesM ⟨o, n, s, t⟩) (leavM ⟨o, n, s, t⟩) (rd hs i) q a0 a1 a2 L o n s t) (if (stepS L.length hs i ⟨o, n, s, t⟩).2 = true then runS rn L.length ((i : Int) + 1) (stepS L.length hs i ⟨o, n, s, t⟩).1 else ((stepS L.length hs i ⟨o, n, s, t⟩).1, false)) := by
   intro q hq
   refine Ev.step (fun k => by simp only [spec_l9Heights.j2]; rfl) ?_
   by_cases c : rd hs i < takesM ⟨o, n, s, t⟩ ∨ rd hs i > 300 ∨ (o = 12 ∧ rd hs i ≠ 1)
   ·refine ev_pos (hq.2 c) (ev_cast ?_ (Ev.now _))
    unfold stepS
    dsimp only
    rw [if_pos c]
    exact (if_neg Bool.false_ne_true).symm
   ·refine ev_neg (fun h => c (hq.1 h)) ?_
    by_cases c11 : o = 11
    ·exact ev_pos c11 (j3 _ (by rw [beq_iff_eq]; omega) c)
    ·exact ev_neg c11 (j3 _ (by rw [beq_iff_eq]; omega) c)
  refine Ev.step (f := fun k => (spec_l9Takes.f k o n s t).bind fun bt => (if (rd hs i) < bt.1 then (spec_l9Heights.j2 k hs i bt.1 bt.2 (rd hs i) true a0 a1 a2 L o n s t) else (if (rd hs i) > 300 then (spec_l9Heights.j2 k hs i bt.1 bt.2 (rd hs i) true a0 a1 a2 L o n s t) else (if o = 12 then (spec_l9Heights.j2 k hs i bt.1 bt.2 (rd hs i) ((rd hs i) != 1) a0 a1 a2 L o n s t) else (spec_l9Heights.j2 k hs i bt.1 bt.2 (rd hs i) false a0 a1 a2 L o n s t))))) (fun k => ?_) (Ev.bind et ?_)
  ·simp only [spec_l9Heights.l1]; rw [if_pos (by omega), if_pos (by omega), if_pos (by omega), hrd]
  ·simp only []
   by_cases c : rd hs i < takesM ⟨o, n, s, t⟩
   ·exact ev_pos c (j2 _ (by simp [c]))
   refine ev_neg c ?_
   by_cases c3 : rd hs i > 300
   ·exact ev_pos c3 (j2 _ (by simp [c3]))
   refine ev_neg c3 ?_
   by_cases c12 : o = 12
   ·refine ev_pos c12 (j2 _ ?_)
    rw [bne_iff_ne]
    exact ⟨fun h => .inr (.inr ⟨c12, h⟩), fun h => h.elim (fun h => absurd h c) (fun h => h.elim (fun h => absurd h c3) (fun h => h.2))⟩
   ·exact ev_neg c12 (j2 _ ⟨fun h => (by cases h), fun h => h.elim (fun h => absurd h c) (fun h => h.elim (fun h => absurd h c3) (fun h => absurd h.1 c12))⟩)
theorem rep_step2 (n i : Nat) (v u : Int) (hi : i < n) : (List.replicate i v ++ List.replicate (n - i) u).set i v = List.replicate (i + 1) v ++ List.replicate (n - (i + 1)) u := by
 obtain ⟨m, hm⟩ : ∃ m, n - i = m + 1 := ⟨n - i - 1, by omega⟩
 rw [hm, show n - (i + 1) = m by omega, List.replicate_succ, List.set_append_right _ _ (by simp), List.length_replicate, Nat.sub_self, List.set_cons_zero, List.replicate_succ', List.append_assoc]
 rfl
def startS (n : Nat) : List Int := (List.replicate n (-1)).set 0 0
theorem startS_len (n : Nat) : (startS n).length = n := by unfold startS; rw [List.length_set, List.length_replicate]
theorem sHeights_ev (f : S44) (h1 : 1 ≤ f.f3.length) (hL : (f.f3.length : Int) ≤ 4194304) (hto : ∀ x ∈ f.f3, x.f0 = 9 ∨ x.f0 = 10 → 0 ≤ x.f3 ∧ x.f3 < (f.f3.length : Int)) : Ev (fun k => spec_l9Heights.f k f.f0 f.f1 f.f2 f.f3) (runS f.f3 f.f3.length 0 (startS f.f3.length)) := by
 have hl0 : ∀ (d i : Nat), i + d = f.f3.length → 1 ≤ i → Ev (fun k => spec_l9Heights.l0 k (0 :: (List.replicate (i - 1) (-1) ++ List.replicate (f.f3.length - 1 - (i - 1)) 0)) i f.f0 f.f1 f.f2 f.f3) (runS f.f3 f.f3.length 0 (startS f.f3.length)) := by
  intro d
  induction d with
  | zero =>
   intro i hi h1
   have e : i = f.f3.length := by omega
   have hl : (0 :: (List.replicate (i - 1) (-1) ++ List.replicate (f.f3.length - 1 - (i - 1)) 0) : List Int) = startS f.f3.length := by
    obtain ⟨m, hm⟩ : ∃ m, f.f3.length = m + 1 := ⟨f.f3.length - 1, by omega⟩
    unfold startS
    rw [e, hm, List.replicate_succ, List.set_cons_zero]
    simp
   rw [hl]
   have := sH_l1 f.f3 f.f0 f.f1 f.f2 hL hto f.f3.length 0 (startS f.f3.length) (by omega) (startS_len _)
   rw [List.drop_zero] at this
   refine Ev.step (fun k => ?_) this
   simp only [spec_l9Heights.l0]; rw [if_neg (by rw [startS_len]; omega)]
   rfl
  | succ d ih =>
   intro i hi h1
   refine Ev.step (fun k => ?_) (ih (i + 1) (by omega) (by omega))
   simp only [spec_l9Heights.l0]
   obtain ⟨m, rfl⟩ : ∃ m, i = m + 1 := ⟨i - 1, by omega⟩
   rw [if_pos (by simp; omega), if_pos (by omega), w64 _ (by omega) (by omega), Int.toNat_natCast, List.set_cons_succ, Nat.add_sub_cancel, rep_step2 (f.f3.length - 1) m (-1) 0 (by omega)]
   rfl
 unfold spec_l9Heights.f
 refine ev_pos (by omega) (ev_pos (by rw [Int.toNat_natCast]; omega) ?_)
 have := hl0 (f.f3.length - 1) 1 (by omega) (by omega)
 rw [Int.toNat_natCast]
 obtain ⟨m, hm⟩ : ∃ m, f.f3.length = m + 1 := ⟨f.f3.length - 1, by omega⟩
 rw [show (List.replicate f.f3.length (0 : Int)) = 0 :: (List.replicate (1 - 1) (-1) ++ List.replicate (f.f3.length - 1 - (1 - 1)) 0) from by rw [hm, List.replicate_succ]; simp]
 exact this
def goodIns (n : Nat) (x : S64) : Prop := 1 ≤ x.f0 ∧ x.f0 ≤ 12 ∧ 0 ≤ takesM x ∧ takesM x ≤ 20 ∧ (x.f0 = 9 ∨ x.f0 = 10 → 0 ≤ x.f3 ∧ x.f3 ≤ (n : Int) - 1)
def invH (n : Nat) (hs : List Int) : Prop := hs.length = n ∧ ∀ j : Nat, j < n → rd hs j = -1 ∨ (0 ≤ rd hs j ∧ rd hs j ≤ 300)
theorem invH_set {n : Nat} {hs : List Int} (h : invH n hs) (i : Nat) (v : Int) (hi : i < n) (h0 : 0 ≤ v) (h1 : v ≤ 300) : invH n (hs.set i v) := by
 refine ⟨by rw [List.length_set]; exact h.1, fun j hj => ?_⟩
 rw [rd_set hs i v j (by rw [h.1]; exact hi)]
 split
 ·exact .inr ⟨h0, h1⟩
 ·exact h.2 j hj
/-- What coming to a place at a height comes to, in both. -/
theorem come_eq {n : Nat} {hs : List Int} (h : invH n hs) (a : Nat) (v : Int) (ha : a < n) (h0 : 0 ≤ v) (h1 : v ≤ 300) :
  ((comeS hs a v).1 = true ∧ comeI hs false a v = ((comeS hs a v).2, false) ∧ invH n (comeS hs a v).2 ∧ rd (comeS hs a v).2 a = v ∧ (∀ j : Nat, j ≠ a → rd (comeS hs a v).2 j = rd hs j)) ∨ ((comeS hs a v).1 = false ∧ (comeI hs false a v).2 = true ∧ rd hs a ≠ -1 ∧ rd hs a ≠ v) := by
 unfold comeS comeI
 rw [if_neg (show ¬ ((a : Int) ≥ (hs.length : Int) ∨ v > 300) by rw [h.1]; omega), Int.toNat_natCast]
 rcases h.2 a ha with h2 | h2
 ·left
  rw [if_pos h2, if_pos (show rd hs a < 0 by omega)]
  refine ⟨rfl, rfl, invH_set h a v ha h0 h1, ?_, fun j hj => ?_⟩
  ·show rd (hs.set a v) (a : Int) = v
   rw [rd_set hs a v a (by rw [h.1]; exact ha), if_pos rfl]
  ·show rd (hs.set a v) (j : Int) = _
   rw [rd_set hs a v j (by rw [h.1]; exact ha), if_neg (fun e => hj e.symm)]
 ·rw [if_neg (show ¬ rd hs a = -1 by omega), if_neg (show ¬ rd hs a < 0 by omega)]
  by_cases c : rd hs a = v
  ·left
   rw [if_pos c]
   exact ⟨beq_iff_eq.2 c, rfl, h, c, fun _ _ => rfl⟩
  ·right
   rw [if_neg c]
   exact ⟨beq_eq_false_iff_ne.2 c, rfl, by omega, c⟩
theorem come_swap {n : Nat} {hs : List Int} (h : invH n hs) {a b : Nat} {u v : Int} (q : (comeS hs a u).1 = true) (p : (comeS (comeS hs a u).2 b v).1 = true) (ha : a < n) (hv : 0 ≤ v) (hb : b < n) (hv2 : v ≤ 300) (hu : 0 ≤ u) (hu2 : u ≤ 300) (hne : ¬ a = b) :
  comeI (comeI hs false b v).1 (comeI hs false b v).2 a u = ((comeS (comeS hs a u).2 b v).2, false) := by
 rcases come_eq h a u ha hu hu2 with ⟨q1, q2, q3, q4, q5⟩ | ⟨q1, q2, q3, q4⟩
 ·rcases come_eq q3 b v hb hv hv2 with ⟨p1, p2, p3, p4, p5⟩ | ⟨p1, p2, p3, p4⟩
  ·rcases come_eq h b v hb hv hv2 with ⟨s1, s2, s3, s4, s5⟩ | ⟨s1, s2, s3, s4⟩
   ·rw [s2]
    rcases come_eq s3 a u ha hu hu2 with ⟨u1, u2, u3, u4, u5⟩ | ⟨u1, u2, u3, u4⟩
    ·rw [u2]
     congr 1
     refine List.ext_getElem (by rw [comeS_len, comeS_len, comeS_len, comeS_len]) (fun j h1 h2 => ?_)
     rw [← rdN _ j h1, ← rdN _ j h2]
     by_cases ja : j = a
     ·subst ja
      rw [u4, p5 j hne, q4]
     ·rw [u5 j ja]
      by_cases jb : j = b
      ·subst jb; rw [s4, p4]
      ·rw [s5 j jb, p5 j jb, q5 j ja]
    ·exfalso
     rw [s5 a hne] at u3 u4
     unfold comeS at q
     rw [if_neg u3] at q
     exact u4 (beq_iff_eq.1 q)
   ·exfalso
    rw [← q5 b (fun e => hne e.symm)] at s3 s4
    generalize hz : (comeS hs (a : Int) u).2 = z at *
    unfold comeS at p
    rw [if_neg s3] at p
    exact s4 (beq_iff_eq.1 p)
  ·rw [p1] at p; cases p
 ·rw [q1] at q; cases q
theorem runI_bad : ∀ (r : List S64) (i : Int) (hs : List Int), (runI r i hs true).2 = false
 | [], i, hs => by rw [runI]; rfl
 | x :: r, i, hs => by rw [runI, if_pos rfl]
theorem step_eq {n : Nat} {hs : List Int} (h : invH n hs) (i : Nat) (hi : i < n) (hn : (n : Int) ≤ 4194304) (x : S64) (g : goodIns n x) :
  (0 ≤ rd hs i ∧ fwdM i x = true ∧ (stepS n hs i x).2 = true ∧ leaveI hs false i x = ((stepS n hs i x).1, false) ∧ invH n (stepS n hs i x).1 ∧ (i + 1 = n → x.f0 = 11 ∨ x.f0 = 12)) ∨
  ((rd hs i < 0 ∨ (leaveI hs false i x).2 = true) ∧ (fwdM i x = false ∨ (stepS n hs i x).2 = false ∨ (i + 1 < n ∧ rd (stepS n hs i x).1 ((i + 1 : Nat) : Int) > 300))) := by
 obtain ⟨g1, g2, g3, g4, g5⟩ := g
 have ew : wrap64 ((i : Int) + 1) = ((i + 1 : Nat) : Int) := w64 _ (by omega) (by omega)
 have hv := h.2 i hi
 have wl : wrap64 (rd hs i - 1) = rd hs i - 1 := w64 _ (by omega) (by omega)
 have wd : wrap64 (rd hs i - takesM x) = rd hs i - takesM x := w64 _ (by omega) (by omega)
 by_cases cneg : rd hs i < 0
 ·right
  refine ⟨.inl cneg, .inr (.inl ?_)⟩
  unfold stepS; rw [if_pos (.inl (by omega))]
 have hh : rd hs i ≤ 300 := by omega
 by_cases ct : rd hs i < takesM x
 ·right
  refine ⟨.inr ?_, .inr (.inl ?_)⟩
  ·unfold leaveI; rw [if_pos (.inl ct)]
  ·unfold stepS; rw [if_pos (.inl ct)]
 by_cases cf : (x.f0 = 9 ∨ x.f0 = 10) ∧ x.f3 ≤ i
 ·right
  refine ⟨.inr ?_, .inl ?_⟩
  ·unfold leaveI; rw [if_pos (.inr cf)]
  ·unfold fwdM; rw [if_pos cf.1]; exact decide_eq_false (by omega)
 have hf : fwdM i x = true := by
  unfold fwdM
  split
  ·next hc => exact decide_eq_true (by have := fun h2 => cf ⟨hc, h2⟩; omega)
  ·rfl
 have eI : ∀ X Y : List Int × Bool, (if rd hs i < takesM x ∨ ((x.f0 = 9 ∨ x.f0 = 10) ∧ x.f3 ≤ i) then X else Y) = Y := fun X Y => if_neg (fun h => h.elim ct cf)
 by_cases c12 : x.f0 = 12
 ·by_cases c1 : rd hs i = 1
  ·left
   have eS : stepS n hs i x = (hs, true) := by
    unfold stepS
    rw [if_neg (fun h => h.elim ct (fun h => h.elim (by omega) (fun h => h.2 c1))), if_pos (show x.f0 = 11 ∨ x.f0 = 12 from .inr c12)]
   have eL : leaveI hs false i x = (hs, false) := by
    unfold leaveI
    rw [eI, if_neg (by omega), if_neg (by omega), if_neg (by omega), if_pos c12, c1]; rfl
   rw [eS, eL]
   exact ⟨by omega, hf, rfl, rfl, h, fun _ => .inr c12⟩
  ·right
   refine ⟨.inr ?_, .inr (.inl ?_)⟩
   ·unfold leaveI
    rw [eI, if_neg (by omega), if_neg (by omega), if_neg (by omega), if_pos c12]
    exact bne_iff_ne.2 c1
   ·unfold stepS; rw [if_pos (.inr (.inr ⟨c12, c1⟩))]
 have eS : ∀ X Y : List Int × Bool, (if rd hs i < takesM x ∨ rd hs i > 300 ∨ (x.f0 = 12 ∧ rd hs i ≠ 1) then X else Y) = Y := fun X Y => if_neg (fun h => h.elim ct (fun h => h.elim (by omega) (fun h => c12 h.1)))
 by_cases c11 : x.f0 = 11
 ·left
  have e1 : stepS n hs i x = (hs, true) := by unfold stepS; rw [eS, if_pos (show x.f0 = 11 ∨ x.f0 = 12 from .inl c11)]
  have e2 : leaveI hs false i x = (hs, false) := by unfold leaveI; rw [eI, if_neg (by omega), if_neg (by omega), if_pos c11]
  rw [e1, e2]
  exact ⟨by omega, hf, rfl, rfl, h, fun _ => .inl c11⟩
 have e11 : ¬ (x.f0 = 11 ∨ x.f0 = 12) := by omega
 by_cases c10 : x.f0 = 10
 ·obtain ⟨m0, m1⟩ := g5 (.inr c10)
  have m2 : (i : Int) < x.f3 := by have := fun h2 => cf ⟨.inr c10, h2⟩; omega
  have e1 : stepS n hs i x = ((comeS hs x.f3 (rd hs i)).2, (comeS hs x.f3 (rd hs i)).1) := by unfold stepS; rw [eS, if_neg e11, if_pos c10]
  have e2 : leaveI hs false i x = comeI hs false x.f3 (rd hs i) := by unfold leaveI; rw [eI, if_neg (by omega), if_pos c10]
  rw [e1, e2]
  obtain ⟨a, ea⟩ : ∃ a : Nat, x.f3 = (a : Int) := ⟨x.f3.toNat, by omega⟩
  rw [ea]
  rcases come_eq h a (rd hs i) (by omega) (by omega) hh with ⟨q1, q2, q3, _, _⟩ | ⟨q1, q2, _, _⟩
  ·left; exact ⟨by omega, hf, q1, q2, q3, fun e => by omega⟩
  ·right; exact ⟨.inr q2, .inr (.inl q1)⟩
 by_cases c9 : x.f0 = 9
 ·obtain ⟨m0, m1⟩ := g5 (.inl c9)
  have m2 : (i : Int) < x.f3 := by have := fun h2 => cf ⟨.inl c9, h2⟩; omega
  have ht : takesM x = 1 := by unfold takesM; rw [if_neg (by omega), if_neg (by omega), if_pos (show x.f0 = 9 ∨ x.f0 = 12 from .inl c9)]
  obtain ⟨a, ea⟩ : ∃ a : Nat, x.f3 = (a : Int) := ⟨x.f3.toNat, by omega⟩
  have e2 : leaveI hs false i x = comeI (comeI hs false ((i + 1 : Nat) : Int) (rd hs i - 1)).1 (comeI hs false ((i + 1 : Nat) : Int) (rd hs i - 1)).2 a (rd hs i) := by unfold leaveI; rw [eI, if_pos c9, ew, wl, ea]
  have hin : i + 1 < n := by omega
  have e1 : stepS n hs i x = (if (comeS hs a (rd hs i)).1 = true then ((comeS (comeS hs a (rd hs i)).2 ((i + 1 : Nat) : Int) (rd hs i - 1)).2, (comeS (comeS hs a (rd hs i)).2 ((i + 1 : Nat) : Int) (rd hs i - 1)).1) else ((comeS hs a (rd hs i)).2, false)) := by
   unfold stepS; rw [eS, if_neg e11, if_neg c10, if_pos c9, ew, wl, ea, if_pos (show (((i + 1 : Nat) : Int)) < (n : Int) by omega)]
  rw [e1, e2]
  by_cases ce : a = i + 1
  ·subst ce
   right
   refine ⟨.inr ?_, .inr (.inl ?_)⟩
   ·rcases come_eq h (i + 1) (rd hs i - 1) hin (by omega) (by omega) with ⟨q1, q2, q3, q4, q5⟩ | ⟨q1, q2, _, _⟩
    ·rw [q2]
     rcases come_eq q3 (i + 1) (rd hs i) hin (by omega) (by omega) with ⟨p1, p2, p3, p4, p5⟩ | ⟨p1, p2, _, _⟩
     ·exfalso
      revert p1
      unfold comeS
      intro p1
      have q4' : rd (comeS hs ((i + 1 : Nat) : Int) (rd hs i - 1)).2 ((i + 1 : Nat) : Int) = rd hs i - 1 := q4
      unfold comeS at q4'
      rw [if_neg (by rw [q4']; omega)] at p1
      have := beq_iff_eq.1 p1
      rw [q4'] at this
      omega
     ·exact p2
    ·rw [q2]; exact comeI_bad _ _ _
   ·by_cases cc : (comeS hs ((i + 1 : Nat) : Int) (rd hs i)).1 = true
    ·rw [if_pos cc]
     rcases come_eq h (i + 1) (rd hs i) hin (by omega) (by omega) with ⟨q1, q2, q3, q4, q5⟩ | ⟨q1, q2, _, _⟩
     ·rcases come_eq q3 (i + 1) (rd hs i - 1) hin (by omega) (by omega) with ⟨p1, p2, p3, p4, p5⟩ | ⟨p1, p2, _, _⟩
      ·exfalso
       generalize hz : (comeS hs ((i + 1 : Nat) : Int) (rd hs i)).2 = z at *
       unfold comeS at p1
       rw [if_neg (by rw [q4]; omega)] at p1
       have := beq_iff_eq.1 p1
       rw [q4] at this
       omega
      ·exact p1
     ·rw [q1] at cc; cases cc
    ·rw [if_neg cc]
  ·rcases come_eq h a (rd hs i) (by omega) (by omega) hh with ⟨q1, q2, q3, q4, q5⟩ | ⟨q1, q2, q3, q4⟩
   ·rw [if_pos q1]
    rcases come_eq q3 (i + 1) (rd hs i - 1) hin (by omega) (by omega) with ⟨p1, p2, p3, p4, p5⟩ | ⟨p1, p2, p3, p4⟩
    ·left
     refine ⟨by omega, hf, p1, ?_, p3, fun e => by omega⟩
     exact come_swap h q1 p1 (by omega) (by omega) hin (by omega) (by omega) (by omega) ce
    ·right
     refine ⟨.inr ?_, .inr (.inl p1)⟩
     rw [q5 (i + 1) (fun e => ce e.symm)] at p3 p4
     have : (comeI hs false ((i + 1 : Nat) : Int) (rd hs i - 1)).2 = true := by
      rcases come_eq h (i + 1) (rd hs i - 1) hin (by omega) (by omega) with ⟨s1, s2, s3, s4, s5⟩ | ⟨s1, s2, _, _⟩
      ·exfalso
       unfold comeS at s1
       rw [if_neg p3] at s1
       exact p4 (beq_iff_eq.1 s1)
      ·exact s2
     rw [this]; exact comeI_bad _ _ _
   ·right
    refine ⟨.inr ?_, .inr (.inl ?_)⟩
    ·rcases come_eq h (i + 1) (rd hs i - 1) hin (by omega) (by omega) with ⟨s1, s2, s3, s4, s5⟩ | ⟨s1, s2, _, _⟩
     ·rw [s2]
      rcases come_eq s3 a (rd hs i) (by omega) (by omega) hh with ⟨u1, u2, u3, u4, u5⟩ | ⟨u1, u2, _, _⟩
      ·exfalso
       have e := s5 a ce
       generalize hz : (comeS hs ((i + 1 : Nat) : Int) (rd hs i - 1)).2 = z at *
       unfold comeS at u1
       rw [if_neg (by rw [e]; exact q3)] at u1
       have := beq_iff_eq.1 u1
       rw [e] at this
       exact q4 this
      ·exact u2
     ·rw [s2]; exact comeI_bad _ _ _
    ·rw [if_neg (by rw [q1]; decide)]
 have hl : leavM x = 1 := by unfold leavM; rw [if_pos (by omega)]
 have hw : wrap64 (rd hs i - takesM x + 1) = rd hs i - takesM x + 1 := w64 _ (by omega) (by omega)
 have e2 : leaveI hs false i x = comeI hs false ((i + 1 : Nat) : Int) (rd hs i - takesM x + 1) := by
  unfold leaveI; rw [eI, if_neg c9, if_neg c10, if_neg c11, if_neg c12, ew, wd, hw]
 by_cases hin : i + 1 < n
 ·have e1 : stepS n hs i x = ((comeS hs ((i + 1 : Nat) : Int) (rd hs i - takesM x + 1)).2, (comeS hs ((i + 1 : Nat) : Int) (rd hs i - takesM x + 1)).1) := by
   unfold stepS; rw [eS, if_neg e11, if_neg c10, if_neg c9, ew, if_pos (show (((i + 1 : Nat) : Int)) < (n : Int) by omega), wd, hl, hw]
  rw [e1, e2]
  by_cases c300 : rd hs i - takesM x + 1 ≤ 300
  ·rcases come_eq h (i + 1) (rd hs i - takesM x + 1) hin (by omega) c300 with ⟨q1, q2, q3, _, _⟩ | ⟨q1, q2, _, _⟩
   ·left; exact ⟨by omega, hf, q1, q2, q3, fun e => by omega⟩
   ·right; exact ⟨.inr q2, .inr (.inl q1)⟩
  ·right
   refine ⟨.inr ?_, ?_⟩
   ·unfold comeI; rw [if_pos (.inr (by omega))]
   ·unfold comeS
    by_cases cm : rd hs ((i + 1 : Nat) : Int) = -1
    ·refine .inr (.inr ⟨hin, ?_⟩)
     rw [if_pos cm, Int.toNat_natCast]
     show rd (hs.set (i + 1) _) (((i + 1 : Nat)) : Int) > 300
     rw [rd_set hs (i + 1) _ (i + 1) (by rw [h.1]; exact hin), if_pos rfl]
     omega
    ·refine .inr (.inl ?_)
     rw [if_neg cm]
     have := h.2 (i + 1) hin
     exact beq_eq_false_iff_ne.2 (by omega)
 ·right
  refine ⟨.inr ?_, .inr (.inl ?_)⟩
  ·rw [e2]; unfold comeI; rw [if_pos (.inl (by rw [h.1]; omega))]
  ·unfold stepS; rw [eS, if_neg e11, if_neg c10, if_neg c9, ew, if_neg (show ¬ (((i + 1 : Nat) : Int)) < (n : Int) by omega)]
def fwdAll : List S64 → Int → Bool
 | [], _ => true
 | x :: r, i => fwdM i x && fwdAll r (i + 1)
theorem run_eq (n : Nat) (hn : (n : Int) ≤ 4194304) : ∀ (r : List S64) (i : Nat) (hs : List Int), i + r.length = n → invH n hs → (∀ x ∈ r, goodIns n x) →
  ((runI r i hs false).2 = true ∧ fwdAll r i = true ∧ (runS r n i hs).2 = true ∧ (runI r i hs false).1 = (runS r n i hs).1 ∧ ∀ h : r ≠ [], (r.getLast h).f0 = 11 ∨ (r.getLast h).f0 = 12) ∨
  ((runI r i hs false).2 = false ∧ (fwdAll r i && (runS r n i hs).2) = false)
 | [], i, hs, hi, h, g => .inl ⟨by rw [runI]; rfl, rfl, by rw [runS], by rw [runI, runS], fun h => absurd rfl h⟩
 | x :: r, i, hs, hi, h, g => by
  rw [List.length_cons] at hi
  have gx := g x List.mem_cons_self
  rw [runI, runS, fwdAll, if_neg Bool.false_ne_true]
  rcases step_eq h i (by omega) hn x gx with ⟨q0, q1, q2, q3, q4, q5⟩ | ⟨q1, q2⟩
  ·rw [if_neg (by omega), if_pos q2, q1, q3, Bool.true_and]
   have ei : (i : Int) + 1 = ((i + 1 : Nat) : Int) := by omega
   dsimp only
   rw [ei]
   rcases run_eq n hn r (i + 1) (stepS n hs i x).1 (by omega) q4 (fun y hy => g y (List.mem_cons_of_mem _ hy)) with ⟨p1, p2, p3, p4, p5⟩ | p
   ·refine .inl ⟨p1, p2, p3, p4, fun hne => ?_⟩
    cases r with
    | nil => exact q5 (by simpa using hi)
    | cons y r2 => rw [List.getLast_cons (by simp)]; exact p5 (by simp)
   ·exact .inr p
  ·right
   constructor
   ·by_cases c : rd hs i < 0
    ·rw [if_pos c]
    ·rw [if_neg c]
     rcases q1 with q1 | q1
     ·exact absurd q1 c
     ·rw [q1]; exact runI_bad _ _ _
   ·rcases q2 with q2 | q2 | ⟨q2, q3⟩
    ·rw [q2, Bool.false_and, Bool.false_and]
    ·rw [if_neg (by rw [q2]; decide), Bool.and_false]
    ·cases r with
     | nil => rw [List.length_nil] at hi; omega
     | cons y r2 =>
      split
      ·rw [runS]
       have e : (stepS n (stepS n hs i x).1 ((i : Int) + 1) y).2 = false := by
        unfold stepS
        rw [if_pos (.inr (.inl q3))]
       rw [if_neg (by rw [e]; decide), Bool.and_false]
      ·rw [Bool.and_false]
theorem insM_to {c : List S44} {p : List S67} {m : Nat} {sl : Int} {x : S64} (h : insM c p m sl x = true) (h9 : x.f0 = 9 ∨ x.f0 = 10) : 0 ≤ x.f3 ∧ x.f3 ≤ (m : Int) - 1 := by
 have ht : toM m x = true := by
  unfold insM at h
  rcases h9 with h9 | h9
  ·rw [if_neg (by omega), if_neg (by omega), if_neg (by omega), if_neg (by omega), if_neg (by omega), if_neg (by omega), if_neg (by omega), if_pos h9, Bool.and_eq_true] at h
   exact h.1
  ·rw [if_neg (by omega), if_neg (by omega), if_neg (by omega), if_neg (by omega), if_neg (by omega), if_neg (by omega), if_neg (by omega), if_neg (by omega), if_pos h9, Bool.and_eq_true] at h
   exact h.1
 unfold toM at ht
 rw [Bool.and_eq_true, Bool.and_eq_true, decide_eq_true_iff, decide_eq_true_iff] at ht
 exact ht.2
def argsOk (c : List S44) : Prop := ∀ f ∈ c, 0 ≤ f.f1 ∧ f.f1 ≤ 4
theorem insM_good {c : List S44} {p : List S67} {m : Nat} {sl : Int} {x : S64} (ha : argsOk c) (h : insM c p m sl x = true) : goodIns m x := by
 have hto := fun h9 => insM_to h h9
 have key : ∀ lo hi : Int, (plainM x && (decide (lo ≤ x.f1) && decide (x.f1 ≤ hi))) = true → lo ≤ x.f1 ∧ x.f1 ≤ hi := fun lo hi h => by
  rw [Bool.and_eq_true, Bool.and_eq_true, decide_eq_true_iff, decide_eq_true_iff] at h
  exact h.2
 unfold goodIns takesM
 unfold insM at h
 by_cases c1 : x.f0 = 1
 ·exact ⟨by omega, by omega, by rw [if_neg (by omega), if_neg (by omega), if_neg (by omega)]; omega, by rw [if_neg (by omega), if_neg (by omega), if_neg (by omega)]; omega, hto⟩
 rw [if_neg c1] at h
 by_cases c2 : x.f0 = 2
 ·exact ⟨by omega, by omega, by rw [if_neg (by omega), if_neg (by omega), if_neg (by omega)]; omega, by rw [if_neg (by omega), if_neg (by omega), if_neg (by omega)]; omega, hto⟩
 rw [if_neg c2] at h
 by_cases c3 : x.f0 = 3
 ·exact ⟨by omega, by omega, by rw [if_neg (by omega), if_neg (by omega), if_neg (by omega)]; omega, by rw [if_neg (by omega), if_neg (by omega), if_neg (by omega)]; omega, hto⟩
 rw [if_neg c3] at h
 by_cases c4 : x.f0 = 4 ∨ x.f0 = 5
 ·rw [if_pos c4] at h
  have := key _ _ h
  rw [if_pos (show x.f0 = 4 ∨ x.f0 = 5 ∨ x.f0 = 6 ∨ x.f0 = 8 by omega)]
  exact ⟨by omega, by omega, this.1, this.2, hto⟩
 rw [if_neg c4] at h
 by_cases c6 : x.f0 = 6
 ·rw [if_pos c6] at h
  have := key _ _ h
  rw [if_pos (show x.f0 = 4 ∨ x.f0 = 5 ∨ x.f0 = 6 ∨ x.f0 = 8 by omega)]
  exact ⟨by omega, by omega, by omega, by omega, hto⟩
 rw [if_neg c6] at h
 by_cases c7 : x.f0 = 7
 ·rw [if_neg (show ¬ (x.f0 = 4 ∨ x.f0 = 5 ∨ x.f0 = 6 ∨ x.f0 = 8) by omega), if_pos c7]
  exact ⟨by omega, by omega, by omega, by omega, hto⟩
 rw [if_neg c7] at h
 by_cases c8 : x.f0 = 8
 ·rw [if_pos c8] at h
  unfold callM at h
  rw [if_pos (show x.f0 = 4 ∨ x.f0 = 5 ∨ x.f0 = 6 ∨ x.f0 = 8 by omega)]
  by_cases h0 : impl_fnAt.ix c x.f2 0 ≥ 0
  ·rw [if_pos h0] at h
   by_cases h1 : (rd_T44 c (impl_fnAt.ix c x.f2 0)).f1 = x.f1
   ·have hr := ix_rng x.f2 c 0
    obtain ⟨i, hi⟩ : ∃ i : Nat, impl_fnAt.ix c x.f2 0 = (i : Int) := ⟨(impl_fnAt.ix c x.f2 0).toNat, by omega⟩
    rw [hi] at h1 hr
    have hlt : i < c.length := by omega
    rw [rd_if c i hlt] at h1
    have := ha _ (List.getElem_mem hlt)
    exact ⟨by omega, by omega, by omega, by omega, hto⟩
   ·rw [if_neg h1] at h; cases h
  ·rw [if_neg h0] at h; cases h
 rw [if_neg c8] at h
 rw [if_neg (show ¬ (x.f0 = 4 ∨ x.f0 = 5 ∨ x.f0 = 6 ∨ x.f0 = 8) by omega), if_neg c7]
 have c12 : 9 ≤ x.f0 ∧ x.f0 ≤ 12 := by
  by_cases c9 : x.f0 = 9
  ·omega
  by_cases c10 : x.f0 = 10
  ·omega
  by_cases c11 : x.f0 = 11 ∨ x.f0 = 12
  ·omega
  rw [if_neg c9, if_neg c10, if_neg c11] at h
  cases h
 refine ⟨by omega, by omega, ?_, ?_, hto⟩ <;> split <;> omega
def fnOkM (c : List S44) (p : List S67) (f : S44) : Bool :=
 xatomM f.f0 && ((decide (0 ≤ f.f1) && decide (f.f1 ≤ 4)) && ((decide (f.f1 ≤ f.f2) && decide (f.f2 ≤ 400)) && ((decide (1 ≤ (f.f3.length : Int)) && decide ((f.f3.length : Int) ≤ 1500)) && (f.f3.all (insM c p f.f3.length f.f2) && (heightsI f.f3).2))))
def lastOk (L : List S64) : Bool := if (rd_T64 L ((L.length : Int) - 1)).f0 = 12 then true else (rd_T64 L ((L.length : Int) - 1)).f0 == 11
def fnOkS (c : List S44) (p : List S67) (i : Int) (f : S44) : Bool :=
 xatomM f.f0 && (decide (impl_fnAt.ix c f.f0 0 = i) && ((decide (0 ≤ f.f1) && decide (f.f1 ≤ 4)) && ((decide (f.f1 ≤ f.f2) && decide (f.f2 ≤ 400)) && ((decide (1 ≤ (f.f3.length : Int)) && decide ((f.f3.length : Int) ≤ 1500)) && (f.f3.all (insM c p f.f3.length f.f2) && (fwdAll f.f3 0 && ((runS f.f3 f.f3.length 0 (startS f.f3.length)).2 && lastOk f.f3)))))))
theorem startS_inv (n : Nat) (h : 1 ≤ n) : invH n (startS n) := by
 refine ⟨startS_len n, fun j hj => ?_⟩
 unfold startS
 rw [rd_set _ 0 0 j (by rw [List.length_replicate]; omega)]
 split
 ·exact .inr ⟨by omega, by omega⟩
 ·left
  rw [rdN _ j (by rw [List.length_replicate]; exact hj), List.getElem_replicate]
theorem heightsI_eq (L : List S64) (h : 1 ≤ L.length) : heightsI L = runI L 0 (startS L.length) false := by
 have e : comeI (List.replicate L.length (-1)) false 0 0 = (startS L.length, false) := by
  unfold comeI startS
  rw [if_neg (by rw [List.length_replicate]; omega), if_pos]
  ·rfl
  ·have := rdN (List.replicate L.length (-1)) 0 (by rw [List.length_replicate]; omega)
   rw [List.getElem_replicate] at this
   have e : rd (List.replicate L.length (-1)) 0 = -1 := this
   rw [e]; omega
 unfold heightsI
 rw [e]
theorem fnOk_heights {c : List S44} {p : List S67} {f : S44} (ha : argsOk c) (h1 : 1 ≤ f.f3.length) (hn : (f.f3.length : Int) ≤ 4194304) (hi : f.f3.all (insM c p f.f3.length f.f2) = true) :
  ((heightsI f.f3).2 = true ∧ fwdAll f.f3 0 = true ∧ (runS f.f3 f.f3.length 0 (startS f.f3.length)).2 = true ∧ (heightsI f.f3).1 = (runS f.f3 f.f3.length 0 (startS f.f3.length)).1 ∧ lastOk f.f3 = true) ∨
  ((heightsI f.f3).2 = false ∧ (fwdAll f.f3 0 && (runS f.f3 f.f3.length 0 (startS f.f3.length)).2) = false) := by
 rw [heightsI_eq f.f3 h1]
 rcases run_eq f.f3.length hn f.f3 0 (startS f.f3.length) (by omega) (startS_inv _ h1) (fun x hx => insM_good ha (List.all_eq_true.1 hi x hx)) with ⟨q1, q2, q3, q4, q5⟩ | q
 ·refine .inl ⟨q1, q2, q3, q4, ?_⟩
  have hne : f.f3 ≠ [] := by intro e; rw [e] at h1; simp at h1
  have q := q5 hne
  have hl : rd_T64 f.f3 ((f.f3.length : Int) - 1) = f.f3.getLast hne := by
   have e : (f.f3.length : Int) - 1 = ((f.f3.length - 1 : Nat) : Int) := by omega
   rw [e, rd_ii f.f3 (f.f3.length - 1) (by omega), List.getLast_eq_getElem]
  unfold lastOk
  rw [hl]
  by_cases c : (f.f3.getLast hne).f0 = 12
  ·rw [if_pos c]
  ·rw [if_neg c]; exact beq_iff_eq.2 (by omega)
 ·exact .inr q
theorem fnOk_eq {c : List S44} {p : List S67} {f : S44} {i : Int} (ha : argsOk c) (hn : (f.f3.length : Int) ≤ 4194304) : (decide (impl_fnAt.ix c f.f0 0 = i) && fnOkM c p f) = fnOkS c p i f := by
 unfold fnOkM fnOkS
 rw [Bool.and_left_comm]
 congr 1
 congr 1
 congr 1
 congr 1
 by_cases h1 : 1 ≤ f.f3.length
 ·congr 1
  cases hi : f.f3.all (insM c p f.f3.length f.f2) with
  | false => rfl
  | true =>
   rw [Bool.true_and, Bool.true_and]
   rcases fnOk_heights ha h1 hn hi with ⟨q1, q2, q3, q4, q5⟩ | ⟨q1, q2⟩
   ·rw [q1, q2, q3, q5]; rfl
   ·rw [q1, ← Bool.and_assoc, q2, Bool.false_and]
 ·rw [decide_eq_false (show ¬ (1 : Int) ≤ (f.f3.length : Int) by omega), Bool.false_and, Bool.false_and, Bool.false_and]
def allI (c : List S44) (p : List S67) : Bool := allFrom (fun i => decide (impl_fnAt.ix c (rd_T44 c i).f0 0 = (i : Int)) && fnOkM c p (rd_T44 c i)) 0 c.length
def allS (c : List S44) (p : List S67) : Bool := allFrom (fun i => fnOkS c p i (rd_T44 c i)) 0 c.length
def codeM (c : List S44) (p : List S67) : Bool := if (c.length : Int) > 12 then false else if (p.length : Int) > 2000 then false else allI c p
theorem all_args {c : List S44} {q : Nat → Bool} (hq : ∀ i : Nat, i < c.length → q i = true → 0 ≤ (rd_T44 c i).f1 ∧ (rd_T44 c i).f1 ≤ 4) (h : allFrom q 0 c.length = true) : argsOk c := by
 intro f hf
 obtain ⟨i, hi, rfl⟩ := List.getElem_of_mem hf
 unfold allFrom at h
 have := List.all_eq_true.1 h i (by rw [List.mem_range']; exact ⟨i, hi, by omega⟩)
 have := hq i hi this
 rwa [rd_if c i hi] at this
theorem all_eq (c : List S44) (p : List S67) (hn : ∀ f ∈ c, (f.f3.length : Int) ≤ 4194304) : allI c p = allS c p := by
 have good : argsOk c → allI c p = allS c p := by
  intro ha
  unfold allI allS allFrom
  rw [Bool.eq_iff_iff, List.all_eq_true, List.all_eq_true]
  have hx : ∀ i ∈ List.range' 0 c.length, (decide (impl_fnAt.ix c (rd_T44 c i).f0 0 = (i : Int)) && fnOkM c p (rd_T44 c i)) = fnOkS c p i (rd_T44 c i) := fun i hi => by
   obtain ⟨j, hj, rfl⟩ := List.mem_range'.1 hi
   have hj' : 0 + 1 * j < c.length := by omega
   exact fnOk_eq ha (by rw [rd_if c _ hj']; exact hn _ (List.getElem_mem hj'))
  exact ⟨fun h i hi => (hx i hi) ▸ h i hi, fun h i hi => (hx i hi).symm ▸ h i hi⟩
 cases hI : allI c p with
 | true =>
  rw [← good (all_args (fun i hi h => ?_) hI), hI]
  unfold fnOkM at h
  rw [Bool.and_eq_true, Bool.and_eq_true, Bool.and_eq_true, Bool.and_eq_true, decide_eq_true_iff, decide_eq_true_iff, decide_eq_true_iff] at h
  exact h.2.2.1
 | false =>
  cases hS : allS c p with
  | false => rfl
  | true =>
   rw [← good (all_args (fun i hi h => ?_) hS), hI] at hS
   ·cases hS
   ·unfold fnOkS at h
    rw [Bool.and_eq_true, Bool.and_eq_true, Bool.and_eq_true, Bool.and_eq_true, decide_eq_true_iff, decide_eq_true_iff, decide_eq_true_iff] at h
    exact h.2.2.1
structure sizeOk (c : List S44) (p : List S67) : Prop where
 hc : (c.length : Int) ≤ 4194304
 hp : (P_budIL p : Int) ≤ 1048576
 hf : ∀ f ∈ c, (f.f3.length : Int) ≤ 4194304
 hn : ∀ f ∈ c, f.f0.size ≤ 140737488351232
 hs : ∀ f ∈ c, ∀ x ∈ f.f3, x.f2.size ≤ 140737488351232
theorem insOk_j1 (c : List S44) (p : List S67) (f : S44) (hc : (c.length : Int) ≤ 4194304) (hp : (P_budIL p : Int) ≤ 1048576) (o n : Int) (s : ByteArray) (t : Int) (hs : s.size ≤ 140737488351232) (h3 : ¬ o = 1 ∧ ¬ o = 2 ∧ ¬ o = 3) (q : Bool) (hq : q = true ↔ o = 4 ∨ o = 5) :
  Ev (fun k => impl_insOk.j1 k [(⟨c, p⟩ : S31)] [f] (plainM ⟨o, n, s, t⟩) (decide (0 ≤ t) && decide (t ≤ (f.f3.length : Int) - 1)) o q o n s t) (insM c p f.f3.length f.f2 ⟨o, n, s, t⟩) := by
 have hpl := P_budIL_len p
 obtain ⟨h1, h2, h3⟩ := h3
 refine Ev.step (fun k => by simp only [impl_insOk.j1]; rfl) ?_
 unfold insM
 dsimp only
 rw [if_neg h1, if_neg h2, if_neg h3]
 by_cases c4 : o = 4 ∨ o = 5
 ·rw [if_pos c4]
  exact ev_pos (hq.2 c4) (ev_and (Ev.bind (ev_of (impl_inRange_eq _ _ _)) (Ev.now _)))
 refine ev_neg (fun h => c4 (hq.1 h)) ?_
 rw [if_neg c4]
 by_cases c6 : o = 6
 ·exact evT c6 (ev_and (Ev.bind (ev_of (impl_inRange_eq _ _ _)) (Ev.now _)))
 refine evF c6 ?_
 by_cases c7 : o = 7
 ·exact evT c7 (ev_andP (Ev.bind (ev_of (impl_isOp_eq _)) (ev_and (Ev.now _))))
 refine evF c7 ?_
 by_cases c8 : o = 8
 ·refine evT c8 (Ev.bind (ev_of (impl_fnAt_eq c p hc s)) ?_)
  refine call_ev c hc o n s t (rd_T44 c) (fun _ => rfl) (fun k => ?_)
  by_cases h0 : impl_fnAt.ix c s 0 ≥ 0
  ·have hr := ix_rng s c 0
   rw [if_pos h0, if_pos h0, if_pos (show (0 : Int) < (([(⟨c, p⟩ : S31)].length : Nat) : Int) by simp), if_pos h0]
   rw [if_pos (show impl_fnAt.ix c s 0 < (((rd_T31 [(⟨c, p⟩ : S31)] 0).f0.length : Nat) : Int) from by show impl_fnAt.ix c s 0 < (c.length : Int); omega)]
   rfl
  ·rw [if_neg h0, if_neg h0]
 refine evF c8 ?_
 by_cases c9 : o = 9
 ·refine evT c9 ?_
  unfold toM
  dsimp only
  rw [Bool.and_assoc]
  refine ev_andP (ev_and ?_)
  refine ev_pos (by simp) ?_
  have e1 : wrap64 ((((rd_T31 [(⟨c, p⟩ : S31)] 0).f1.length : Nat) : Int) - 1) = (p.length : Int) - 1 := by
   show wrap64 ((p.length : Int) - 1) = _
   exact w64 _ (by omega) (by omega)
  rw [e1]
  refine Ev.bind (ev_of (impl_inRange_eq _ _ _)) ?_
  by_cases hn : 0 ≤ n ∧ n ≤ (p.length : Int) - 1
  ·obtain ⟨i, rfl⟩ : ∃ i : Nat, n = (i : Int) := ⟨n.toNat, by omega⟩
   have hi : i < p.length := by omega
   rw [decide_eq_true hn.1, decide_eq_true hn.2]
   have hm := P_budI_mem p _ (P_rdI_mem p i hi)
   refine ev_pos rfl (ev_pos (by omega) (ev_pos (by show (i : Int) < (p.length : Int); omega) (ev_pos (by simp) ?_)))
   rw [Bool.and_self, Bool.true_and]
   exact Ev.bind (impl_PatFits_ev (rd_T67 p i) f.f2 (by omega)) (Ev.now _)
  ·have hf : (decide (0 ≤ n) && decide (n ≤ (p.length : Int) - 1)) = false := by rw [← dec_and]; exact decide_eq_false hn
   rw [hf, Bool.false_and]
   exact ev_neg (by decide) (Ev.now _)
 refine evF c9 ?_
 by_cases c10 : o = 10
 ·refine evT c10 ?_
  unfold toM
  dsimp only
  rw [Bool.and_assoc]
  refine ev_andP ?_
  by_cases hn : n = 0
  ·refine ev_pos hn (ev_cast ?_ (Ev.now _))
   subst hn; simp
  ·refine ev_neg hn (ev_cast ?_ (Ev.now _))
   have : (n == 0) = false := beq_eq_false_iff_ne.2 hn
   rw [this, Bool.and_false]
 refine evF c10 ?_
 by_cases c11 : o = 11
 ·refine ev_cast (if_pos (show o = 11 ∨ o = 12 from .inl c11)).symm (ev_pos c11 (ev_and (Ev.now _)))
 refine ev_neg c11 ?_
 by_cases c12 : o = 12
 ·refine ev_cast (if_pos (show o = 11 ∨ o = 12 from .inr c12)).symm (ev_pos c12 (ev_and (Ev.now _)))
 ·exact ev_cast (if_neg (show ¬ (o = 11 ∨ o = 12) by omega)).symm (ev_neg c12 (Ev.now _))
theorem insOk_ev (c : List S44) (p : List S67) (f : S44) (hc : (c.length : Int) ≤ 4194304) (hp : (P_budIL p : Int) ≤ 1048576) (hf : (f.f3.length : Int) ≤ 4194304) (x : S64) (hs : x.f2.size ≤ 140737488351232) :
  Ev (fun k => impl_insOk.f k [(⟨c, p⟩ : S31)] [f] x.f0 x.f1 x.f2 x.f3) (insM c p f.f3.length f.f2 x) := by
 obtain ⟨o, n, s, t⟩ := x
 dsimp only at hs ⊢
 have key : Ev (fun k => impl_insOk.j0 k [(⟨c, p⟩ : S31)] [f] (plainM ⟨o, n, s, t⟩) o n s t) (insM c p f.f3.length f.f2 ⟨o, n, s, t⟩) := by
  refine Ev.step (fun k => by simp only [impl_insOk.j0]; rfl) ?_
  refine ev_pos (by simp) ?_
  have e1 : wrap64 ((((rd_T44 [f] 0).f3.length : Nat) : Int) - 1) = (f.f3.length : Int) - 1 := by
   show wrap64 ((f.f3.length : Int) - 1) = _
   exact w64 _ (by omega) (by omega)
  rw [e1]
  refine Ev.bind (ev_of (impl_inRange_eq _ _ _)) ?_
  by_cases c1 : o = 1
  ·refine ev_pos c1 ?_
   unfold insM
   rw [if_pos c1]
   exact ev_and (Ev.bind (ev_of (impl_inRange_eq _ _ _)) (Ev.now _))
  refine ev_neg c1 ?_
  by_cases c2 : o = 2
  ·refine ev_pos c2 ?_
   unfold insM
   rw [if_neg c1, if_pos c2]
   exact ev_andP (Ev.bind (impl_xAtomOk_ev s hs) (ev_and (Ev.now _)))
  refine ev_neg c2 ?_
  by_cases c3 : o = 3
  ·refine ev_pos c3 ?_
   unfold insM
   rw [if_neg c1, if_neg c2, if_pos c3]
   exact ev_and (Ev.bind (ev_of (impl_inRange_eq _ _ _)) (Ev.now _))
  refine ev_neg c3 ?_
  by_cases c4 : o = 4
  ·exact ev_pos c4 (insOk_j1 c p f hc hp o n s t hs ⟨c1, c2, c3⟩ _ (by rw [beq_iff_eq]; omega))
  ·exact ev_neg c4 (insOk_j1 c p f hc hp o n s t hs ⟨c1, c2, c3⟩ _ (by rw [beq_iff_eq]; omega))
 unfold impl_insOk.f
 by_cases ht : s.toList = ([] : List UInt8)
 ·refine ev_pos ht (ev_cast rfl ?_)
  have e : plainM ⟨o, n, s, t⟩ = (t == 0) := by unfold plainM noT; rw [decide_eq_true ht, Bool.true_and]
  rw [e] at key; exact key
 ·refine ev_neg ht ?_
  have e : plainM ⟨o, n, s, t⟩ = false := by unfold plainM noT; rw [decide_eq_false ht, Bool.false_and]
  rw [e] at key; exact key
theorem fnOk_l0 (c : List S44) (p : List S67) (z : sizeOk c p) (f : S44) (hf : f ∈ c) (d : Nat) : ∀ i : Nat, i + d = f.f3.length → (f.f3.take i).all (insM c p f.f3.length f.f2) = true → Ev (fun k => impl_fnOk.l0 k [(⟨c, p⟩ : S31)] [f] f.f3 (f.f3.length : Int) i) ((f.f3.drop i).all (insM c p f.f3.length f.f2) && (heightsI f.f3).2) := by
 have hL := z.hf f hf
 induction d with
 | zero =>
  intro i hi hall
  rw [List.take_of_length_le (by omega)] at hall
  rw [List.drop_eq_nil_of_le (by omega), List.all_nil, Bool.true_and]
  refine Ev.step (f := fun k => (impl_heightsOf.f k [f]).bind fun bt => some bt.2) (fun k => ?_) (Ev.bind (heightsOf_ev f hL (fun x hx h9 => (insM_to (List.all_eq_true.1 hall x hx) h9).1)) (Ev.now _))
  simp only [impl_fnOk.l0]; rw [if_neg (by omega)]
 | succ d ih =>
  intro i hi hall
  have hlt : i < f.f3.length := by omega
  have hrd := rd_ii f.f3 i hlt
  have e := insOk_ev c p f z.hc z.hp hL f.f3[i] (z.hs f hf _ (List.getElem_mem hlt))
  have hn := ih (i + 1) (by omega)
  rw [List.take_succ_eq_append_getElem hlt, List.all_append, hall, Bool.true_and, List.all_cons, List.all_nil, Bool.and_true] at hn
  rw [List.drop_eq_getElem_cons hlt, List.all_cons]
  generalize f.f3[i] = x at *
  refine Ev.step (f := fun k => (impl_insOk.f k [(⟨c, p⟩ : S31)] [f] x.f0 x.f1 x.f2 x.f3).bind fun t => (if t = true then (impl_fnOk.l0 k [(⟨c, p⟩ : S31)] [f] f.f3 (f.f3.length : Int) (wrap64 ((i : Int) + 1))) else (some false))) (fun k => ?_) (Ev.bind e ?_)
  ·simp only [impl_fnOk.l0]; rw [if_pos (by omega), if_pos (by omega), if_pos (by omega), hrd]
  ·rw [w64 _ (by omega) (by omega)]
   cases hx : insM c p f.f3.length f.f2 x with
   | true => rw [Bool.true_and]; exact ev_pos rfl (hn hx)
   | false => exact ev_neg (by decide) (Ev.now _)
theorem fnOk_ev (c : List S44) (p : List S67) (z : sizeOk c p) (f : S44) (hf : f ∈ c) : Ev (fun k => impl_fnOk.f k [(⟨c, p⟩ : S31)] [f]) (fnOkM c p f) := by
 have hL := z.hf f hf
 have bad : Ev (fun k => impl_fnOk.j0 k [(⟨c, p⟩ : S31)] [f] true) false := Ev.step (f := fun _ => some false) (fun k => by simp only [impl_fnOk.j0]; rw [if_pos trivial]) (Ev.now _)
 have orB : ∀ {b : Bool} {A : Nat → Option Bool} {r : Bool}, Ev A r → Ev (fun k => if b = true then A k else impl_fnOk.j0 k [(⟨c, p⟩ : S31)] [f] true) (b && r) := by
  intro b A r e
  cases b with
  | true => rw [Bool.true_and]; exact ev_pos rfl e
  | false => exact ev_neg (by decide) bad
 unfold impl_fnOk.f fnOkM
 refine ev_pos (by simp) (Ev.bind (impl_xAtomOk_ev f.f0 (z.hn f hf)) (orB ?_))
 refine Ev.bind (ev_of (impl_inRange_eq _ _ _)) (orB ?_)
 refine Ev.bind (ev_of (impl_inRange_eq _ _ _)) (orB ?_)
 refine Ev.bind (ev_of (impl_inRange_eq _ _ _)) ?_
 have el : (((rd_T44 [f] 0).f3.length : Nat) : Int) = (f.f3.length : Int) := rfl
 rw [el]
 cases hb : (decide (1 ≤ (f.f3.length : Int)) && decide ((f.f3.length : Int) ≤ 1500)) with
 | false => exact bad
 | true =>
  rw [Bool.true_and]
  refine Ev.step (f := fun k => impl_fnOk.l0 k [(⟨c, p⟩ : S31)] [f] f.f3 (f.f3.length : Int) 0) (fun k => ?_) ?_
  ·simp only [impl_fnOk.j0]; rw [if_neg (by decide), if_pos (by simp)]; rfl
  ·have := fnOk_l0 c p z f hf f.f3.length 0 (by omega) (by rw [List.take_zero]; rfl)
   rw [List.drop_zero] at this
   exact this
theorem impl_CodeOk_ev (c : List S44) (p : List S67) (z : sizeOk c p) : Ev (fun k => impl_CodeOk.f k c p) (codeM c p) := by
 unfold impl_CodeOk.f codeM
 by_cases h1 : (c.length : Int) > 12
 ·exact evT h1 (Ev.now _)
 refine evF h1 ?_
 by_cases h2 : (p.length : Int) > 2000
 ·exact evT h2 (Ev.now _)
 refine evF h2 ?_
 refine all_loop (fun k i => impl_CodeOk.l0 k c p i) _ c.length ?_ ?_ c.length 0 (by omega)
 ·intro i hi r hr hn
  have e := fnOk_ev c p z (rd_T44 c i) (by rw [rd_if c i hi]; exact List.getElem_mem hi)
  (try dsimp only at hr hn)
  generalize hy : rd_T44 c i = y at *
  refine Ev.step (f := fun k => (impl_fnAt.f [(⟨c, p⟩ : S31)] y.f0).bind fun t1 => (if t1 = (i : Int) then ((impl_fnOk.f k [(⟨c, p⟩ : S31)] [y]).bind fun t2 => (if t2 = true then (impl_CodeOk.l0 k c p (wrap64 ((i : Int) + 1))) else (some false))) else (some false))) (fun k => ?_) ?_
  ·simp only [impl_CodeOk.l0]; rw [if_pos (by omega), if_pos (by omega), hy]
  ·refine Ev.bind (ev_of (impl_fnAt_eq c p z.hc y.f0)) ?_
   have hc := z.hc
   rw [w64 _ (by omega) (by omega)]
   by_cases c1 : impl_fnAt.ix c y.f0 0 = (i : Int)
   ·rw [decide_eq_true c1, Bool.true_and] at hr hn
    refine ev_pos c1 (Ev.bind e ?_)
    cases hq : fnOkM c p y with
    | true => exact ev_pos rfl (hr hq)
    | false => exact ev_neg (by decide) (ev_cast (hn hq).symm (Ev.now _))
   ·rw [decide_eq_false c1, Bool.false_and] at hn
    exact ev_neg c1 (ev_cast (hn rfl).symm (Ev.now _))
 ·refine Ev.step (f := fun _ => some true) (fun k => ?_) (Ev.now _)
  simp only [impl_CodeOk.l0]; rw [if_neg (by omega)]
theorem sIns_j2 (c : List S44) (p : List S67) (f : S44) (a : Int) (hc : (c.length : Int) ≤ 4194304) (hp : (P_budIL p : Int) ≤ 1048576) (hsl : -9223372036854775807 ≤ f.f2) (o n : Int) (s : ByteArray) (t : Int) (hs : s.size ≤ 140737488351232) (h3 : ¬ o = 1 ∧ ¬ o = 2 ∧ ¬ o = 3) (q : Bool) (hq : q = true ↔ o = 4 ∨ o = 5)
  (b : Bool) (hb : o = 9 ∨ o = 10 → b = (toM f.f3.length ⟨o, n, s, t⟩ && decide (a + 1 ≤ t))) :
  Ev (fun k => spec_l9Ins.j2 k (plainM ⟨o, n, s, t⟩) b o q c p f.f0 f.f1 f.f2 f.f3 o n s t) (insM c p f.f3.length f.f2 ⟨o, n, s, t⟩ && fwdM a ⟨o, n, s, t⟩) := by
 have hpl := P_budIL_len p
 obtain ⟨h1, h2, h3⟩ := h3
 refine Ev.step (fun k => by simp only [spec_l9Ins.j2]; rfl) ?_
 have fT : ¬ (o = 9 ∨ o = 10) → fwdM a ⟨o, n, s, t⟩ = true := fun h => by unfold fwdM; exact if_neg h
 have fF : o = 9 ∨ o = 10 → fwdM a ⟨o, n, s, t⟩ = decide (a + 1 ≤ t) := fun h => by unfold fwdM; exact if_pos h
 have e3 : ∀ X1 X2 X3 Y : Bool, (if o = 1 then X1 else if o = 2 then X2 else if o = 3 then X3 else Y) = Y := fun X1 X2 X3 Y => by rw [if_neg h1, if_neg h2, if_neg h3]
 by_cases c4 : o = 4 ∨ o = 5
 ·refine ev_cast ?_ (ev_pos (hq.2 c4) (ev_and (Ev.bind (ev_of (spec_l1In_eq _ _ _)) (Ev.now _))))
  rw [fT (by omega), Bool.and_true]
  unfold insM; dsimp only; rw [e3, if_pos c4]
 refine ev_neg (fun h => c4 (hq.1 h)) ?_
 by_cases c6 : o = 6
 ·refine ev_cast ?_ (ev_pos c6 (ev_and (Ev.bind (ev_of (spec_l1In_eq _ _ _)) (Ev.now _))))
  rw [fT (by omega), Bool.and_true]
  unfold insM; dsimp only; rw [e3, if_neg c4, if_pos c6]
 refine ev_neg c6 ?_
 by_cases c7 : o = 7
 ·refine ev_cast ?_ (ev_pos c7 (Ev.bind (ev_of (spec_l4Op_eq _)) (ev_and (ev_andP (Ev.now _)))))
  rw [fT (by omega), Bool.and_true]
  unfold insM; dsimp only; rw [e3, if_neg c4, if_neg c6, if_pos c7, Bool.and_left_comm]
 refine ev_neg c7 ?_
 by_cases c8 : o = 8
 ·refine ev_pos c8 (Ev.bind (fnAt_ev c p hc s) ?_)
  refine ev_cast ?_ (call_ev c hc o n s t (rd_T44 c) (fun _ => rfl) (fun k => ?_))
  ·rw [fT (by omega), Bool.and_true]
   unfold insM; dsimp only; rw [e3, if_neg c4, if_neg c6, if_neg c7, if_pos c8]
  ·by_cases h0 : impl_fnAt.ix c s 0 ≥ 0
   ·have hr := ix_rng s c 0
    rw [if_pos h0, if_pos h0, if_pos h0, if_pos (show impl_fnAt.ix c s 0 < (c.length : Int) by omega)]
   ·rw [if_neg h0, if_neg h0]
 refine ev_neg c8 ?_
 by_cases c9 : o = 9
 ·have e : (insM c p f.f3.length f.f2 ⟨o, n, s, t⟩ && fwdM a ⟨o, n, s, t⟩) = (b && ((decide (0 ≤ n) && decide (n ≤ (p.length : Int) - 1)) && fitsM (rd_T67 p n) f.f2)) := by
   rw [fF (.inl c9), hb (.inl c9)]
   unfold insM; dsimp only; rw [e3, if_neg c4, if_neg c6, if_neg c7, if_neg c8, if_pos c9, Bool.and_right_comm]
  rw [e]
  refine ev_pos c9 (ev_and ?_)
  rw [w64 ((p.length : Int) - 1) (by omega) (by omega)]
  refine Ev.bind (ev_of (spec_l1In_eq _ _ _)) ?_
  by_cases hn : 0 ≤ n ∧ n ≤ (p.length : Int) - 1
  ·obtain ⟨i, rfl⟩ : ∃ i : Nat, n = (i : Int) := ⟨n.toNat, by omega⟩
   have hi : i < p.length := by omega
   rw [decide_eq_true hn.1, decide_eq_true hn.2]
   have hm := P_budI_mem p _ (P_rdI_mem p i hi)
   refine ev_pos rfl (ev_pos (by omega) (ev_pos (by omega) ?_))
   rw [Bool.and_self, Bool.true_and]
   exact Ev.bind (spec_PatFits_ev (rd_T67 p i) f.f2 (by omega)) (Ev.now _)
  ·have hf : (decide (0 ≤ n) && decide (n ≤ (p.length : Int) - 1)) = false := by rw [← dec_and]; exact decide_eq_false hn
   rw [hf, Bool.false_and]
   exact ev_neg (by decide) (Ev.now _)
 refine ev_neg c9 ?_
 by_cases c10 : o = 10
 ·refine ev_cast ?_ (ev_pos c10 (ev_and (Ev.now _)))
  rw [fF (.inr c10), hb (.inr c10)]
  unfold insM; dsimp only; rw [e3, if_neg c4, if_neg c6, if_neg c7, if_neg c8, if_neg c9, if_pos c10, Bool.and_right_comm]
 refine ev_neg c10 ?_
 rw [fT (by omega), Bool.and_true]
 have eq : insM c p f.f3.length f.f2 ⟨o, n, s, t⟩ = (if o = 11 ∨ o = 12 then plainM ⟨o, n, s, t⟩ && (n == 0) else false) := by
  unfold insM; dsimp only; rw [e3, if_neg c4, if_neg c6, if_neg c7, if_neg c8, if_neg c9, if_neg c10]
 rw [eq]
 by_cases c11 : o = 11 ∨ o = 12
 ·refine ev_cast (if_pos c11).symm (ev_and ?_)
  by_cases hn : n = 0
  ·refine ev_pos hn (Ev.bind (ev_of (spec_l1In_eq _ _ _)) (ev_cast ?_ (Ev.now _)))
   rw [decide_eq_true (show (11 : Int) ≤ o by omega), decide_eq_true (show o ≤ 12 by omega), hn]; rfl
  ·refine ev_neg hn (ev_cast ?_ (Ev.now _))
   exact (beq_eq_false_iff_ne.2 hn).symm
 ·rw [if_neg c11]
  refine ev_cast (Bool.and_false (plainM ⟨o, n, s, t⟩)) (ev_and ?_)
  by_cases hn : n = 0
  ·refine ev_pos hn (Ev.bind (ev_of (spec_l1In_eq _ _ _)) (ev_cast ?_ (Ev.now _)))
   rw [← dec_and]; exact decide_eq_false (by omega)
  ·exact ev_neg hn (Ev.now _)
theorem sIns_ev (c : List S44) (p : List S67) (f : S44) (hc : (c.length : Int) ≤ 4194304) (hp : (P_budIL p : Int) ≤ 1048576) (hf : (f.f3.length : Int) ≤ 4194304) (hsl : -9223372036854775807 ≤ f.f2) (a : Nat) (ha : a < f.f3.length) (hs : (f.f3[a]).f2.size ≤ 140737488351232) :
  Ev (fun k => spec_l9Ins.f k c p f.f0 f.f1 f.f2 f.f3 a) (insM c p f.f3.length f.f2 f.f3[a] && fwdM a f.f3[a]) := by
 have hrd := rd_ii f.f3 a ha
 generalize f.f3[a] = x at *
 obtain ⟨o, n, s, t⟩ := x
 dsimp only at hs
 have j1 : ∀ b : Bool, (o = 9 ∨ o = 10 → b = (toM f.f3.length ⟨o, n, s, t⟩ && decide ((a : Int) + 1 ≤ t))) → Ev (fun k => spec_l9Ins.j1 k (plainM ⟨o, n, s, t⟩) b c p f.f0 f.f1 f.f2 f.f3 o n s t) (insM c p f.f3.length f.f2 ⟨o, n, s, t⟩ && fwdM a ⟨o, n, s, t⟩) := by
  intro b hb
  refine Ev.step (fun k => by simp only [spec_l9Ins.j1]; rfl) ?_
  have fT : ¬ (o = 9 ∨ o = 10) → fwdM a ⟨o, n, s, t⟩ = true := fun h => by unfold fwdM; exact if_neg h
  by_cases c1 : o = 1
  ·refine ev_cast ?_ (ev_pos c1 (ev_and (Ev.bind (ev_of (spec_l1In_eq _ _ _)) (Ev.now _))))
   rw [fT (by omega), Bool.and_true]
   unfold insM; dsimp only; rw [if_pos c1]
  refine ev_neg c1 ?_
  by_cases c2 : o = 2
  ·refine ev_cast ?_ (ev_pos c2 (Ev.bind (spec_l4Atom_ev s hs) (ev_and (ev_andP (Ev.now _)))))
   rw [fT (by omega), Bool.and_true]
   unfold insM; dsimp only; rw [if_neg c1, if_pos c2, Bool.and_left_comm]
  refine ev_neg c2 ?_
  by_cases c3 : o = 3
  ·refine ev_cast ?_ (ev_pos c3 (ev_and (Ev.bind (ev_of (spec_l1In_eq _ _ _)) (Ev.now _))))
   rw [fT (by omega), Bool.and_true]
   unfold insM; dsimp only; rw [if_neg c1, if_neg c2, if_pos c3]
  refine ev_neg c3 ?_
  by_cases c4 : o = 4
  ·exact ev_pos c4 (sIns_j2 c p f a hc hp hsl o n s t hs ⟨c1, c2, c3⟩ _ (by rw [beq_iff_eq]; omega) b hb)
  ·exact ev_neg c4 (sIns_j2 c p f a hc hp hsl o n s t hs ⟨c1, c2, c3⟩ _ (by rw [beq_iff_eq]; omega) b hb)
 have j0 : Ev (fun k => spec_l9Ins.j0 k a (plainM ⟨o, n, s, t⟩) c p f.f0 f.f1 f.f2 f.f3 o n s t) (insM c p f.f3.length f.f2 ⟨o, n, s, t⟩ && fwdM a ⟨o, n, s, t⟩) := by
  refine Ev.step (fun k => by simp only [spec_l9Ins.j0]; rfl) ?_
  by_cases ht : s.toList = ([] : List UInt8)
  ·refine ev_pos ht (Ev.bind (ev_of (spec_l1In_eq _ _ _)) (j1 _ (fun _ => ?_)))
   rw [w64 ((a : Int) + 1) (by omega) (by omega), w64 ((f.f3.length : Int) - 1) (by omega) (by omega)]
   unfold toM noT
   dsimp only
   rw [decide_eq_true ht, Bool.true_and, ← dec_and, ← dec_and, ← dec_and]
   exact decide_eq_decide.2 (by constructor <;> intro h <;> omega)
  ·refine ev_neg ht (j1 _ (fun _ => ?_))
   unfold toM noT
   rw [decide_eq_false ht, Bool.false_and, Bool.false_and]
 have eq : ∀ k, spec_l9Ins.f k c p f.f0 f.f1 f.f2 f.f3 (a : Int) = if s.toList = ([] : List UInt8) then (spec_l9Ins.j0 k a (t == 0) c p f.f0 f.f1 f.f2 f.f3 o n s t) else (spec_l9Ins.j0 k a false c p f.f0 f.f1 f.f2 f.f3 o n s t) := fun k => by
  unfold spec_l9Ins.f; rw [if_pos (by omega), if_pos (by omega), hrd]
 simp only [eq]
 by_cases ht : s.toList = ([] : List UInt8)
 ·refine ev_pos ht ?_
  have e : plainM ⟨o, n, s, t⟩ = (t == 0) := by unfold plainM noT; rw [decide_eq_true ht, Bool.true_and]
  rw [e] at j0; exact j0
 ·refine ev_neg ht ?_
  have e : plainM ⟨o, n, s, t⟩ = false := by unfold plainM noT; rw [decide_eq_false ht, Bool.false_and]
  rw [e] at j0; exact j0
theorem sFnOk_l0 (c : List S44) (p : List S67) (z : sizeOk c p) (f : S44) (hf : f ∈ c) (hsl : -9223372036854775807 ≤ f.f2) (h1 : 1 ≤ f.f3.length) (d : Nat) : ∀ i : Nat, i + d = f.f3.length → (f.f3.take i).all (insM c p f.f3.length f.f2) = true → Ev (fun k => spec_l9FnOk.l0 k i c p f.f0 f.f1 f.f2 f.f3) ((f.f3.drop i).all (insM c p f.f3.length f.f2) && (fwdAll (f.f3.drop i) i && ((runS f.f3 f.f3.length 0 (startS f.f3.length)).2 && lastOk f.f3))) := by
 have hL := z.hf f hf
 induction d with
 | zero =>
  intro i hi hall
  rw [List.take_of_length_le (by omega)] at hall
  rw [List.drop_eq_nil_of_le (by omega), List.all_nil, Bool.true_and, fwdAll, Bool.true_and]
  have ew : wrap64 ((f.f3.length : Int) - 1) = (f.f3.length : Int) - 1 := w64 _ (by omega) (by omega)
  refine Ev.step (f := fun k => (spec_l9Heights.f k f.f0 f.f1 f.f2 f.f3).bind fun bt => (if bt.2 = true then (if (rd_T64 f.f3 ((f.f3.length : Int) - 1)).f0 = 12 then (some true) else (some ((rd_T64 f.f3 ((f.f3.length : Int) - 1)).f0 == 11))) else (some false))) (fun k => ?_) (Ev.bind (sHeights_ev f h1 hL (fun x hx h9 => ?_)) ?_)
  ·simp only [spec_l9FnOk.l0]; rw [if_neg (by omega), ew]
   congr 1
   funext bt
   rw [if_pos (by omega), if_pos (by omega)]
  ·have := insM_to (List.all_eq_true.1 hall x hx) h9
   omega
  ·(try dsimp only)
   cases (runS f.f3 f.f3.length 0 (startS f.f3.length)).2 with
   | false => exact ev_neg (by decide) (Ev.now _)
   | true =>
    rw [Bool.true_and]
    refine ev_pos rfl ?_
    unfold lastOk
    by_cases cl : (rd_T64 f.f3 ((f.f3.length : Int) - 1)).f0 = 12
    ·exact evT cl (Ev.now _)
    ·exact evF cl (Ev.now _)
 | succ d ih =>
  intro i hi hall
  have hlt : i < f.f3.length := by omega
  have e := sIns_ev c p f z.hc z.hp hL hsl i hlt (z.hs f hf _ (List.getElem_mem hlt))
  have hn := ih (i + 1) (by omega)
  rw [List.take_succ_eq_append_getElem hlt, List.all_append, hall, Bool.true_and, List.all_cons, List.all_nil, Bool.and_true] at hn
  rw [List.drop_eq_getElem_cons hlt, List.all_cons, fwdAll]
  generalize f.f3[i] = x at *
  refine Ev.step (f := fun k => (spec_l9Ins.f k c p f.f0 f.f1 f.f2 f.f3 i).bind fun t => (if t = true then (spec_l9FnOk.l0 k (wrap64 ((i : Int) + 1)) c p f.f0 f.f1 f.f2 f.f3) else (some false))) (fun k => ?_) (Ev.bind e ?_)
  ·simp only [spec_l9FnOk.l0]; rw [if_pos (by omega)]
  ·rw [w64 _ (by omega) (by omega)]
   cases hx : insM c p f.f3.length f.f2 x with
   | true =>
    rw [Bool.true_and, Bool.true_and]
    cases fwdM i x with
    | true => rw [Bool.true_and]; exact ev_pos rfl (hn hx)
    | false => exact ev_neg (by decide) (ev_cast (by rw [Bool.false_and, Bool.false_and, Bool.and_false]) (Ev.now _))
   | false => exact ev_neg (by simp) (ev_cast (by simp) (Ev.now _))
theorem sFnOk_ev (c : List S44) (p : List S67) (z : sizeOk c p) (i : Nat) (hi : i < c.length) : Ev (fun k => spec_l9FnOk.f k c p i) (fnOkS c p i (rd_T44 c i)) := by
 have hf : rd_T44 c i ∈ c := by rw [rd_if c i hi]; exact List.getElem_mem hi
 generalize hy : rd_T44 c i = f at *
 have hL := z.hf f hf
 have bad : Ev (fun k => spec_l9FnOk.j0 k true c p f.f0 f.f1 f.f2 f.f3) false := Ev.step (f := fun _ => some false) (fun k => by simp only [spec_l9FnOk.j0]; rw [if_pos trivial]) (Ev.now _)
 have orB : ∀ {b : Bool} {A : Nat → Option Bool} {r : Bool}, (b = true → Ev A r) → Ev (fun k => if b = true then A k else spec_l9FnOk.j0 k true c p f.f0 f.f1 f.f2 f.f3) (b && r) := by
  intro b A r e
  cases b with
  | true => rw [Bool.true_and]; exact ev_pos rfl (e rfl)
  | false => exact ev_neg (by decide) bad
 unfold spec_l9FnOk.f fnOkS
 rw [hy]
 refine ev_pos (by omega) (ev_pos (by omega) (Ev.bind (spec_l4Atom_ev f.f0 (z.hn f hf)) (orB (fun _ => ?_))))
 refine Ev.bind (fnAt_ev c p z.hc f.f0) ?_
 by_cases ci : impl_fnAt.ix c f.f0 0 = (i : Int)
 ·rw [decide_eq_true ci, Bool.true_and]
  refine ev_pos ci ?_
  refine Ev.bind (ev_of (spec_l1In_eq _ _ _)) (orB (fun ha => ?_))
  refine Ev.bind (ev_of (spec_l1In_eq _ _ _)) (orB (fun hb => ?_))
  rw [Bool.and_eq_true, decide_eq_true_iff, decide_eq_true_iff] at ha hb
  refine Ev.bind (ev_of (spec_l1In_eq _ _ _)) ?_
  cases hq : (decide (1 ≤ (f.f3.length : Int)) && decide ((f.f3.length : Int) ≤ 1500)) with
  | false => exact bad
  | true =>
   rw [Bool.and_eq_true, decide_eq_true_iff, decide_eq_true_iff] at hq
   rw [Bool.true_and]
   refine Ev.step (f := fun k => spec_l9FnOk.l0 k 0 c p f.f0 f.f1 f.f2 f.f3) (fun k => ?_) ?_
   ·simp only [spec_l9FnOk.j0]; rw [if_neg (by decide)]
   ·have := sFnOk_l0 c p z f hf (by omega) (by omega) f.f3.length 0 (by omega) (by rw [List.take_zero]; rfl)
    rw [List.drop_zero] at this
    exact this
 ·rw [decide_eq_false ci, Bool.false_and]
  exact ev_neg ci bad
theorem spec_CodeOk_ev (c : List S44) (p : List S67) (z : sizeOk c p) : Ev (fun k => spec_CodeOk.f k c p) (codeM c p) := by
 have key : ∀ q : Bool, (q = true ↔ (c.length : Int) > 12 ∨ (p.length : Int) > 2000) → Ev (fun k => spec_CodeOk.j0 k q c p) (codeM c p) := by
  intro q hq
  refine Ev.step (fun k => by simp only [spec_CodeOk.j0]; rfl) ?_
  unfold codeM
  by_cases hh : (c.length : Int) > 12 ∨ (p.length : Int) > 2000
  ·refine ev_pos (hq.2 hh) (ev_cast ?_ (Ev.now _))
   by_cases h1 : (c.length : Int) > 12
   ·rw [if_pos h1]
   ·rw [if_neg h1, if_pos (by omega)]
  ·refine ev_neg (fun h => hh (hq.1 h)) ?_
   rw [if_neg (fun h => hh (.inl h)), if_neg (fun h => hh (.inr h)), all_eq c p z.hf]
   refine all_loop (fun k i => spec_CodeOk.l0 k i c p) _ c.length ?_ ?_ c.length 0 (by omega)
   ·intro i hi r hr hn
    have hc := z.hc
    refine Ev.step (f := fun k => (spec_l9FnOk.f k c p i).bind fun t => (if t = true then (spec_CodeOk.l0 k (wrap64 ((i : Int) + 1)) c p) else (some false))) (fun k => ?_) (Ev.bind (sFnOk_ev c p z i hi) ?_)
    ·simp only [spec_CodeOk.l0]; rw [if_pos (by omega)]
    ·rw [w64 _ (by omega) (by omega)]
     (try dsimp only at hr hn)
     cases hq : fnOkS c p i (rd_T44 c i) with
     | true => exact ev_pos rfl (hr hq)
     | false => exact ev_neg (by decide) (ev_cast (hn hq).symm (Ev.now _))
   ·refine Ev.step (f := fun _ => some true) (fun k => ?_) (Ev.now _)
    simp only [spec_CodeOk.l0]; rw [if_neg (by omega)]
 unfold spec_CodeOk.f
 by_cases h1 : (c.length : Int) > 12
 ·exact ev_pos h1 (key _ (by simp [h1]))
 ·exact ev_neg h1 (key _ (by rw [decide_eq_true_iff]; exact ⟨fun h => .inr h, fun h => h.elim (fun h => absurd h h1) id⟩))
theorem cv_sizeOk (a : List S52) (b : List S55) (hb : (budCode ⟨a, b⟩ : Int) ≤ 1048576) (q : (P_budIL (P_cvL b) : Int) ≤ 1048576) : sizeOk (a.map cvFn) (P_cvL b) := by
 unfold budCode budFns at hb
 dsimp only at hb
 have hx : ∀ y ∈ a, (budFn y : Int) ≤ 1048576 := fun y hy => by have := sumB_mem budFn a y hy; omega
 refine ⟨by rw [List.length_map]; omega, q, ?_, ?_, ?_⟩ <;> intro f hf <;> obtain ⟨y, hy, rfl⟩ := List.mem_map.1 hf <;> have h := hx y hy <;> unfold budFn at h
 ·show ((y.f3.map cvIns).length : Int) ≤ _
  rw [List.length_map]; omega
 ·show y.f0.size ≤ _
  omega
 ·intro x hx
  obtain ⟨v, hv, rfl⟩ := List.mem_map.1 hx
  have := sumB_mem budIns y.f3 v hv
  unfold budIns at this h
  show v.f2.size ≤ _
  omega
theorem FnExactCodeOk : laws_FnExactCodeOk.Pure := by
 intro a b hw
 refine Ev.rounds (g := fun k => laws_FnExactCodeOk.f k a b) ?_
 unfold laws_FnExactCodeOk.f
 refine Ev.bind (szCode_ev a b hw 1048576 (by omega) (by omega)) ?_
 unfold szRes
 by_cases hb : (budCode ⟨a, b⟩ : Int) ≤ 1048576
 ·rw [if_pos hb]
  refine ev_neg (by omega) ?_
  have ht := toCode_ev a b hb
  obtain ⟨q0, q1, q2⟩ := code_bounds a b hb
  have z := cv_sizeOk a b hb q2
  refine Ev.step (fun k => by simp only [laws_FnExactCodeOk.j0]; rfl) ?_
  exact Ev.bind ht (Ev.bind (spec_CodeOk_ev _ _ z) (Ev.bind ht (Ev.bind (impl_CodeOk_ev _ _ z) (ev_neg (by simp) (Ev.bind ht (Ev.bind (eqCode_ev (a.map cvFn) (P_cvL b) (by omega) (fun y hy => by have := q1 y hy; omega) (by omega)) (ev_pos rfl (Ev.now _))))))))
 ·rw [if_neg hb]
  exact ev_pos (by omega) (Ev.now _)

end Go.Proofs.Ytghhbdmjafedbaa.Pure
