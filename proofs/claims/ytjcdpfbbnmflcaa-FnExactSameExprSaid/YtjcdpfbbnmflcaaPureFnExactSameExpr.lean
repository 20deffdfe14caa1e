/- What the law FnExactSameExpr of this seat says holds for every input that its row speaks of; no further condition. -/
import Derived.Test.YtjcdpfbbnmflcaaQFnExactSameExprx6
set_option linter.unusedVariables false
set_option linter.unusedSimpArgs false
namespace Go.Proofs.Ytjcdpfbbnmflcaa.Pure
open Go.RowKit Go.Proofs.Ytjcdpfbbnmflcaa.QFnExactSameExpr Go.Proofs.YtjcdpfbbnmflcaaW.PrintWords Go.Proofs.YtjcdpfbbnmflcaaW.PrintLast Go.Proofs.YtjcdpfbbnmflcaaW.PrintMore

theorem ev_pos {α : Type} {c : Prop} [Decidable c] {A B : Nat → Option α} {r : α} (h : c) (e : Ev A r) : Ev (fun k => if c then A k else B k) r := by
  obtain ⟨K, hK⟩ := e
  exact ⟨K, fun k hk => by simp only [if_pos h]; exact hK k hk⟩
theorem ev_neg {α : Type} {c : Prop} [Decidable c] {A B : Nat → Option α} {r : α} (h : ¬ c) (e : Ev B r) : Ev (fun k => if c then A k else B k) r := by
  obtain ⟨K, hK⟩ := e
  exact ⟨K, fun k hk => by simp only [if_neg h]; exact hK k hk⟩
theorem ev_of {α : Type} {o : Option α} {r : α} (h : o = some r) : Ev (fun _ => o) r := ⟨0, fun _ _ => h⟩
theorem ev_cast {α : Type} {g : Nat → Option α} {r r' : α} (h : r = r') (e : Ev g r) : Ev g r' := h ▸ e
theorem ev_uniq {α : Type} {g : Nat → Option α} {r r' : α} (h : Ev g r) (h' : Ev g r') : r = r' := by
  obtain ⟨K, hK⟩ := h
  obtain ⟨K', hK'⟩ := h'
  have a := hK (max K K') (Nat.le_max_left _ _)
  have b := hK' (max K K') (Nat.le_max_right _ _)
  rw [a] at b
  exact Option.some.inj b
theorem w64 (n : Int) (h0 : -9223372036854775808 ≤ n) (h1 : n ≤ 9223372036854775807) : wrap64 n = n := by unfold wrap64; omega
theorem dec_and (p q : Prop) [Decidable p] [Decidable q] : decide (p ∧ q) = (decide p && decide q) := by
  by_cases hp : p <;> by_cases hq : q <;> simp [hp, hq]
def szRes (left : Int) (b : Nat) : Int := if (b : Int) ≤ left then left - b else -1
theorem getDG {α : Type} (z : α) (l : List α) (i : Nat) (h : i < l.length) : l.getD ((i : Int)).toNat z = l[i] := by
  simp [List.getD_eq_getElem?_getD, List.getElem?_eq_getElem h]
theorem map_loop {α β : Type} (L : Nat → List β → Int → Option (List β)) (f : α → β) (l : List α)
    (hstep : ∀ (i : Nat) (h : i < l.length) (x : List β) (r : List β), x.length = l.length → Ev (fun k => L k (x.set i (f l[i])) ((i + 1 : Nat) : Int)) r → Ev (fun k => L k x (i : Int)) r)
    (hend : ∀ x : List β, x.length = l.length → Ev (fun k => L k x (l.length : Int)) x) (d : Nat) :
    ∀ (i : Nat) (x : List β), i + d = l.length → x.length = l.length → x.take i = (l.map f).take i → Ev (fun k => L k x (i : Int)) (l.map f) := by
  induction d with
  | zero =>
    intro i x hi hx ht
    have e : i = l.length := by omega
    subst e
    refine ev_cast ?_ (hend x hx)
    rwa [List.take_of_length_le (by omega), List.take_of_length_le (by rw [List.length_map]; omega)] at ht
  | succ d ih =>
    intro i x hi hx ht
    have hlt : i < l.length := by omega
    refine hstep i hlt x _ hx (ih (i + 1) _ (by omega) (by simpa using hx) ?_)
    rw [List.take_succ_eq_append_getElem (by simpa using (by omega : i < x.length)), List.take_set_of_le (Nat.le_refl i), ht, List.take_succ_eq_append_getElem (by simpa using hlt)]
    simp
theorem map_loop0 {α β : Type} (L : Nat → List β → Int → Option (List β)) (f : α → β) (l : List α) (z : β)
    (hstep : ∀ (i : Nat) (h : i < l.length) (x : List β) (r : List β), x.length = l.length → Ev (fun k => L k (x.set i (f l[i])) ((i + 1 : Nat) : Int)) r → Ev (fun k => L k x (i : Int)) r)
    (hend : ∀ x : List β, x.length = l.length → Ev (fun k => L k x (l.length : Int)) x) : Ev (fun k => L k (List.replicate l.length z) 0) (l.map f) :=
  map_loop L f l hstep hend l.length 0 (List.replicate l.length z) (by omega) (by simp) (by simp)
def sumB {α : Type} (bud : α → Nat) : List α → Nat
  | [] => 0
  | x :: r => bud x + sumB bud r
theorem sumB_drop {α : Type} (bud : α → Nat) (l : List α) (i : Nat) (h : i < l.length) : sumB bud (l.drop i) = bud l[i] + sumB bud (l.drop (i + 1)) := by
  rw [List.drop_eq_getElem_cons h, sumB]
theorem sumB_mem {α : Type} (bud : α → Nat) : ∀ (l : List α) (x : α), x ∈ l → bud x ≤ sumB bud l
  | [], x, h => by cases h
  | y :: r, x, h => by
    rw [sumB]
    rcases List.mem_cons.1 h with rfl | h
    · omega
    · have := sumB_mem bud r x h; omega
theorem sz_loopG {α : Type} (L : Nat → Int → Int → Option Int) (bud : α → Nat) (l : List α)
    (hstep : ∀ (i : Nat) (h : i < l.length) (left r : Int), 0 ≤ left → left ≤ 1048576 → ((bud l[i] : Int) ≤ left → Ev (fun k => L k (left - bud l[i]) ((i + 1 : Nat) : Int)) r) → (¬ (bud l[i] : Int) ≤ left → r = -1) → Ev (fun k => L k left (i : Int)) r)
    (hend : ∀ left : Int, Ev (fun k => L k left (l.length : Int)) left) (d : Nat) :
    ∀ (i : Nat) (left : Int), i + d = l.length → 0 ≤ left → left ≤ 1048576 → Ev (fun k => L k left (i : Int)) (szRes left (sumB bud (l.drop i))) := by
  induction d with
  | zero =>
    intro i left hi h0 h1
    have e : i = l.length := by omega
    subst e
    refine ev_cast ?_ (hend left)
    rw [List.drop_eq_nil_of_le (by omega), sumB]; unfold szRes; rw [if_pos (by omega)]; omega
  | succ d ih =>
    intro i left hi h0 h1
    have hlt : i < l.length := by omega
    rw [sumB_drop bud l i hlt]
    refine hstep i hlt left _ h0 h1 (fun hb => ?_) (fun hb => ?_)
    · refine ev_cast ?_ (ih (i + 1) (left - bud l[i]) (by omega) (by omega) (by omega))
      unfold szRes
      by_cases hc : (sumB bud (l.drop (i + 1)) : Int) ≤ left - bud l[i]
      · rw [if_pos hc, if_pos (by omega)]; omega
      · rw [if_neg hc, if_neg (by omega)]
    · unfold szRes; rw [if_neg (by omega)]
def allFrom (p : Nat → Bool) (i d : Nat) : Bool := (List.range' i d).all p
theorem all_loop (L : Nat → Int → Option Bool) (p : Nat → Bool) (n : Nat)
    (hstep : ∀ (i : Nat), i < n → ∀ r, (p i = true → Ev (fun k => L k ((i + 1 : Nat) : Int)) r) → (p i = false → r = false) → Ev (fun k => L k (i : Int)) r)
    (hend : Ev (fun k => L k (n : Int)) true) (d : Nat) : ∀ i : Nat, i + d = n → Ev (fun k => L k (i : Int)) (allFrom p i d) := by
  induction d with
  | zero =>
    intro i hi
    have e : i = n := by omega
    subst e
    exact hend
  | succ d ih =>
    intro i hi
    refine hstep i (by omega) _ (fun hp => ?_) (fun hp => ?_)
    · refine ev_cast ?_ (ih (i + 1) (by omega))
      unfold allFrom
      rw [List.range'_succ, List.all_cons, hp, Bool.true_and]
    · unfold allFrom
      rw [List.range'_succ, List.all_cons, hp, Bool.false_and]
theorem rdE (l : List S37) (i : Nat) (h : i < l.length) : rd_T37 l (i : Int) = l[i] := getDG _ l i h
theorem rdC (l : List S55) (i : Nat) (h : i < l.length) : rd_T55 l (i : Int) = l[i] := getDG _ l i h
theorem indE {P : S37 → Prop} (h : ∀ a b s l m, (∀ y ∈ l, P y) → (∀ c : P55 S37, c ∈ m → P c.f0 ∧ P c.f1) → P ⟨a, b, s, l, m⟩) : ∀ x, P x := by
  intro x
  refine S37.rec (motive_1 := P) (motive_2 := fun l => ∀ y ∈ l, P y) (motive_3 := fun m => ∀ c ∈ m, P c.f0 ∧ P c.f1) (motive_4 := fun c => P c.f0 ∧ P c.f1) ?_ ?_ ?_ ?_ ?_ ?_ x
  · intro a b s l m hl hm
    exact h a b s l m hl hm
  · intro y hy; cases hy
  · intro x r hx hr y hy
    rcases List.mem_cons.1 hy with rfl | hy
    · exact hx
    · exact hr y hy
  · intro y hy; cases hy
  · intro x r hx hr y hy
    rcases List.mem_cons.1 hy with rfl | hy
    · exact hx
    · exact hr y hy
  · intro p q hp hq
    exact ⟨hp, hq⟩
mutual
def budX : S37 → Nat
  | ⟨_, _, s, l, m⟩ => s.size + (l.length + budXL l) + (m.length + budXC m)
def budXL : List S37 → Nat
  | [] => 0
  | x :: r => budX x + budXL r
def budXc : P55 S37 → Nat
  | ⟨p, x⟩ => budX p + budX x
def budXC : List (P55 S37) → Nat
  | [] => 0
  | x :: r => budXc x + budXC r
end
theorem budXL_mem : ∀ (l : List S37) (x : S37), x ∈ l → budX x ≤ budXL l
  | [], x, h => by cases h
  | y :: r, x, h => by
    rw [budXL]
    rcases List.mem_cons.1 h with rfl | h
    · omega
    · have := budXL_mem r x h; omega
theorem budXC_mem : ∀ (l : List (P55 S37)) (c : P55 S37), c ∈ l → budX c.f0 + budX c.f1 ≤ budXC l
  | [], x, h => by cases h
  | y :: r, x, h => by
    rw [budXC]
    rcases List.mem_cons.1 h with rfl | h
    · obtain ⟨p, q⟩ := x
      rw [budXc]
      show budX p + budX q ≤ _
      omega
    · have := budXC_mem r x h; omega
theorem rdLE (l : List S41) (i : Nat) (h : i < l.length) : rd_T41 l (i : Int) = l[i] := getDG _ l i h
theorem rdLC (l : List S144) (i : Nat) (h : i < l.length) : rd_T144 l (i : Int) = l[i] := getDG _ l i h
theorem indLE {P : S41 → Prop} (h : ∀ a b s l m, (∀ y ∈ l, P y) → (∀ c : P144 S41, c ∈ m → P c.f0 ∧ P c.f1) → P ⟨a, b, s, l, m⟩) : ∀ x, P x := by
  intro x
  refine S41.rec (motive_1 := P) (motive_2 := fun l => ∀ y ∈ l, P y) (motive_3 := fun m => ∀ c ∈ m, P c.f0 ∧ P c.f1) (motive_4 := fun c => P c.f0 ∧ P c.f1) ?_ ?_ ?_ ?_ ?_ ?_ x
  · intro a b s l m hl hm
    exact h a b s l m hl hm
  · intro y hy; cases hy
  · intro x r hx hr y hy
    rcases List.mem_cons.1 hy with rfl | hy
    · exact hx
    · exact hr y hy
  · intro y hy; cases hy
  · intro x r hx hr y hy
    rcases List.mem_cons.1 hy with rfl | hy
    · exact hx
    · exact hr y hy
  · intro p q hp hq
    exact ⟨hp, hq⟩
mutual
def budE : S41 → Nat
  | ⟨_, _, s, l, m⟩ => s.size + (l.length + budEL l) + (m.length + budCL m)
def budEL : List S41 → Nat
  | [] => 0
  | x :: r => budE x + budEL r
def budCc : P144 S41 → Nat
  | ⟨p, x⟩ => budE p + budE x
def budCL : List (P144 S41) → Nat
  | [] => 0
  | x :: r => budCc x + budCL r
end
mutual
def cvE : S41 → S37
  | ⟨a, b, s, l, m⟩ => ⟨a, b, s, cvEL l, cvCL m⟩
def cvEL : List S41 → List S37
  | [] => []
  | x :: r => cvE x :: cvEL r
def cvC : P144 S41 → P55 S37
  | ⟨p, x⟩ => ⟨cvE p, cvE x⟩
def cvCL : List (P144 S41) → List (P55 S37)
  | [] => []
  | x :: r => cvC x :: cvCL r
end
theorem cvEL_map : ∀ l, cvEL l = l.map cvE
  | [] => rfl
  | x :: r => by rw [cvEL, List.map_cons, cvEL_map r]
theorem cvCL_map : ∀ l, cvCL l = l.map cvC
  | [] => rfl
  | x :: r => by rw [cvCL, List.map_cons, cvCL_map r]
theorem cvEL_len (l : List S41) : (cvEL l).length = l.length := by rw [cvEL_map, List.length_map]
theorem cvCL_len (l : List (P144 S41)) : (cvCL l).length = l.length := by rw [cvCL_map, List.length_map]
mutual
theorem budX_cv : ∀ x, budX (cvE x) = budE x
  | ⟨a, b, s, l, m⟩ => by rw [cvE, budX, budE, budXL_cv l, budXC_cv m, cvEL_len, cvCL_len]
theorem budXL_cv : ∀ l, budXL (cvEL l) = budEL l
  | [] => by rw [cvEL, budXL, budEL]
  | x :: r => by rw [cvEL, budXL, budEL, budX_cv x, budXL_cv r]
theorem budXc_cv : ∀ x, budXc (cvC x) = budCc x
  | ⟨p, x⟩ => by rw [cvC, budXc, budCc, budX_cv p, budX_cv x]
theorem budXC_cv : ∀ l, budXC (cvCL l) = budCL l
  | [] => by rw [cvCL, budXC, budCL]
  | x :: r => by rw [cvCL, budXC, budCL, budXc_cv x, budXC_cv r]
end
theorem sumE : ∀ l, sumB budE l = budEL l
  | [] => by rw [sumB, budEL]
  | x :: r => by rw [sumB, budEL, sumE r]
theorem sumC : ∀ l, sumB budCc l = budCL l
  | [] => by rw [sumB, budCL]
  | x :: r => by rw [sumB, budCL, sumC r]
theorem wfE_mk {a b : Int} {s : ByteArray} {l : List S41} {m : List (P144 S41)} (h : wf41 ⟨a, b, s, l, m⟩) : (s.size : Int) ≤ 9223372036854775807 ∧ (l.length : Int) ≤ 9223372036854775807 ∧ (∀ x ∈ l, wf41 x) ∧ (m.length : Int) ≤ 9223372036854775807 ∧ ∀ c : P144 S41, c ∈ m → wf41 c.f0 ∧ wf41 c.f1 := by
  unfold wf41 at h
  obtain ⟨h0, h1, h2, ⟨h3, h4⟩, h5, h6⟩ := h
  unfold maxLen at h2 h3 h5
  refine ⟨by omega, by omega, (wfl41_iff l).1 h4, by omega, fun c hc => ?_⟩
  have := (wfl144_iff m).1 h6 c hc
  obtain ⟨p, x⟩ := c
  unfold wf144 at this
  exact this
theorem szES_of (l : List S41) (hl : (l.length : Int) ≤ 9223372036854775807)
    (h : ∀ y ∈ l, ∀ left : Int, 0 ≤ left → left ≤ 1048576 → Ev (fun k => laws_szExpr.f k y.f0 y.f1 y.f2 y.f3 y.f4 left) (szRes left (budE y))) (left : Int) (h0 : 0 ≤ left) (h1 : left ≤ 1048576) :
    Ev (fun k => laws_szExprS.f k l left) (szRes left (l.length + budEL l)) := by
  by_cases hc : left - (l.length : Int) < 0
  · refine Ev.step (f := fun _ => some (-1)) (fun k => ?_) (ev_cast ?_ (Ev.now _))
    · simp only [laws_szExprS.f]; rw [w64 _ (by omega) (by omega), if_pos hc]
    · unfold szRes; rw [if_neg (by omega)]
  · refine Ev.step (f := fun k => laws_szExprS.l0 k l (left - l.length) 0) (fun k => ?_) (ev_cast ?_ (sz_loopG (fun k left i => laws_szExprS.l0 k l left i) budE l ?_ ?_ l.length 0 (left - l.length) (by omega) (by omega) (by omega)))
    · simp only [laws_szExprS.f]; rw [w64 _ (by omega) (by omega), if_neg hc]
    · rw [List.drop_zero, sumE]
      unfold szRes
      by_cases hb : (budEL l : Int) ≤ left - l.length
      · rw [if_pos hb, if_pos (by omega)]; omega
      · rw [if_neg hb, if_neg (by omega)]
    · intro i hi left r q0 q1 hr hn
      have e := h _ (List.getElem_mem hi) left q0 q1
      refine Ev.step (f := fun k => (laws_szExpr.f k l[i].f0 l[i].f1 l[i].f2 l[i].f3 l[i].f4 left).bind fun t102 => (if t102 < 0 then (some (-1)) else (laws_szExprS.l0 k l t102 (wrap64 ((i : Int) + 1))))) (fun k => ?_) (Ev.bind e ?_)
      · simp only [laws_szExprS.l0]; rw [if_pos (by omega), if_pos (by omega), rdLE l i hi]
      · rw [w64 _ (by omega) (by omega)]
        unfold szRes
        by_cases hb : (budE l[i] : Int) ≤ left
        · rw [if_pos hb]; exact ev_neg (by omega) (hr hb)
        · rw [if_neg hb]; exact ev_pos (by omega) (ev_cast (hn hb).symm (Ev.now _))
    · intro left
      refine Ev.step (f := fun _ => some left) (fun k => ?_) (Ev.now _)
      simp only [laws_szExprS.l0]; rw [if_neg (by omega)]
theorem szC_of (c : P144 S41) (e0 : ∀ left : Int, 0 ≤ left → left ≤ 1048576 → Ev (fun k => laws_szExpr.f k c.f0.f0 c.f0.f1 c.f0.f2 c.f0.f3 c.f0.f4 left) (szRes left (budE c.f0)))
    (e1 : ∀ left : Int, 0 ≤ left → left ≤ 1048576 → Ev (fun k => laws_szExpr.f k c.f1.f0 c.f1.f1 c.f1.f2 c.f1.f3 c.f1.f4 left) (szRes left (budE c.f1))) (left : Int) (h0 : 0 ≤ left) (h1 : left ≤ 1048576) :
    Ev (fun k => laws_szClause.f k c.f0.f0 c.f0.f1 c.f0.f2 c.f0.f3 c.f0.f4 c.f1.f0 c.f1.f1 c.f1.f2 c.f1.f3 c.f1.f4 left) (szRes left (budCc c)) := by
  have hbc : budCc c = budE c.f0 + budE c.f1 := by cases c; rw [budCc]
  refine Ev.step (f := fun k => (laws_szExpr.f k c.f0.f0 c.f0.f1 c.f0.f2 c.f0.f3 c.f0.f4 left).bind fun t104 => (if t104 < 0 then (some (-1)) else ((laws_szExpr.f k c.f1.f0 c.f1.f1 c.f1.f2 c.f1.f3 c.f1.f4 t104).bind fun t105 => (if t105 < 0 then (some (-1)) else (some t105))))) (fun k => rfl) (Ev.bind (e0 left h0 h1) ?_)
  unfold szRes
  by_cases hb : (budE c.f0 : Int) ≤ left
  · rw [if_pos hb]
    refine ev_neg (by omega) (Ev.bind (e1 (left - budE c.f0) (by omega) (by omega)) ?_)
    unfold szRes
    by_cases hb2 : (budE c.f1 : Int) ≤ left - budE c.f0
    · rw [if_pos hb2]
      refine ev_neg (by omega) (ev_cast ?_ (Ev.now _))
      rw [if_pos (by omega)]; omega
    · rw [if_neg hb2]
      refine ev_pos (by omega) (ev_cast ?_ (Ev.now _))
      rw [if_neg (by omega)]
  · rw [if_neg hb]
    refine ev_pos (by omega) (ev_cast ?_ (Ev.now _))
    rw [if_neg (by omega)]
theorem szCS_of (l : List (P144 S41)) (hl : (l.length : Int) ≤ 9223372036854775807)
    (h : ∀ c ∈ l, ∀ left : Int, 0 ≤ left → left ≤ 1048576 → Ev (fun k => laws_szClause.f k c.f0.f0 c.f0.f1 c.f0.f2 c.f0.f3 c.f0.f4 c.f1.f0 c.f1.f1 c.f1.f2 c.f1.f3 c.f1.f4 left) (szRes left (budCc c))) (left : Int) (h0 : 0 ≤ left) (h1 : left ≤ 1048576) :
    Ev (fun k => laws_szClauseS.f k l left) (szRes left (l.length + budCL l)) := by
  by_cases hc : left - (l.length : Int) < 0
  · refine Ev.step (f := fun _ => some (-1)) (fun k => ?_) (ev_cast ?_ (Ev.now _))
    · simp only [laws_szClauseS.f]; rw [w64 _ (by omega) (by omega), if_pos hc]
    · unfold szRes; rw [if_neg (by omega)]
  · refine Ev.step (f := fun k => laws_szClauseS.l0 k l (left - l.length) 0) (fun k => ?_) (ev_cast ?_ (sz_loopG (fun k left i => laws_szClauseS.l0 k l left i) budCc l ?_ ?_ l.length 0 (left - l.length) (by omega) (by omega) (by omega)))
    · simp only [laws_szClauseS.f]; rw [w64 _ (by omega) (by omega), if_neg hc]
    · rw [List.drop_zero, sumC]
      unfold szRes
      by_cases hb : (budCL l : Int) ≤ left - l.length
      · rw [if_pos hb, if_pos (by omega)]; omega
      · rw [if_neg hb, if_neg (by omega)]
    · intro i hi left r q0 q1 hr hn
      have e := h _ (List.getElem_mem hi) left q0 q1
      have hrd := rdLC l i hi
      generalize l[i] = c at *
      refine Ev.step (f := fun k => (laws_szClause.f k c.f0.f0 c.f0.f1 c.f0.f2 c.f0.f3 c.f0.f4 c.f1.f0 c.f1.f1 c.f1.f2 c.f1.f3 c.f1.f4 left).bind fun t102 => (if t102 < 0 then (some (-1)) else (laws_szClauseS.l0 k l t102 (wrap64 ((i : Int) + 1))))) (fun k => ?_) (Ev.bind e ?_)
      · simp only [laws_szClauseS.l0]; rw [if_pos (by omega), if_pos (by omega), hrd]
      · rw [w64 _ (by omega) (by omega)]
        unfold szRes
        by_cases hb : (budCc c : Int) ≤ left
        · rw [if_pos hb]; exact ev_neg (by omega) (hr hb)
        · rw [if_neg hb]; exact ev_pos (by omega) (ev_cast (hn hb).symm (Ev.now _))
    · intro left
      refine Ev.step (f := fun _ => some left) (fun k => ?_) (Ev.now _)
      simp only [laws_szClauseS.l0]; rw [if_neg (by omega)]
theorem szE_all : ∀ x, wf41 x → ∀ left : Int, 0 ≤ left → left ≤ 1048576 → Ev (fun k => laws_szExpr.f k x.f0 x.f1 x.f2 x.f3 x.f4 left) (szRes left (budE x)) := by
  refine indLE ?_
  intro a b s l m ih ihc hw left h0 h1
  obtain ⟨hs, hl, hm, hl2, hm2⟩ := wfE_mk hw
  simp only []
  rw [budE]
  by_cases hc : left - (s.size : Int) < 0
  · refine Ev.step (f := fun _ => some (-1)) (fun k => ?_) (ev_cast ?_ (Ev.now _))
    · simp only [laws_szExpr.f]; rw [w64 _ (by omega) (by omega), if_pos hc]
    · unfold szRes; rw [if_neg (by omega)]
  · refine Ev.step (f := fun k => (laws_szExprS.f k l (left - (s.size : Int))).bind fun t109 => (if t109 < 0 then (some (-1)) else ((laws_szClauseS.f k m t109).bind fun t110 => (if t110 < 0 then (some (-1)) else (some t110))))) (fun k => ?_) (Ev.bind (szES_of l hl (fun y hy => ih y hy (hm y hy)) (left - s.size) (by omega) (by omega)) ?_)
    · simp only [laws_szExpr.f]; rw [w64 _ (by omega) (by omega), if_neg hc]
    · unfold szRes
      by_cases hb : ((l.length + budEL l : Nat) : Int) ≤ left - s.size
      · rw [if_pos hb]
        refine ev_neg (by omega) (Ev.bind (szCS_of m hl2 (fun c hc2 => szC_of c ((ihc c hc2).1 (hm2 c hc2).1) ((ihc c hc2).2 (hm2 c hc2).2)) (left - s.size - ((l.length + budEL l : Nat) : Int)) (by omega) (by omega)) ?_)
        unfold szRes
        by_cases hb2 : ((m.length + budCL m : Nat) : Int) ≤ left - s.size - ((l.length + budEL l : Nat) : Int)
        · rw [if_pos hb2]
          refine ev_neg (by omega) (ev_cast ?_ (Ev.now _))
          rw [if_pos (by omega)]; omega
        · rw [if_neg hb2]
          refine ev_pos (by omega) (ev_cast ?_ (Ev.now _))
          rw [if_neg (by omega)]
      · rw [if_neg hb]
        refine ev_pos (by omega) (ev_cast ?_ (Ev.now _))
        rw [if_neg (by omega)]
theorem toES_of (l : List S41) (hl : (l.length : Int) ≤ 1048576)
    (h : ∀ y ∈ l, Ev (fun k => laws_toExpr.f k y.f0 y.f1 y.f2 y.f3 y.f4) (y.f0, y.f1, y.f2, cvEL y.f3, cvCL y.f4)) : Ev (fun k => laws_toExprS.f k l) (cvEL l) := by
  rw [cvEL_map]
  refine Ev.step (f := fun k => laws_toExprS.l0 k l (List.replicate l.length z37) 0) (fun k => ?_) (map_loop0 (fun k x i => laws_toExprS.l0 k l x i) cvE l _ ?_ ?_)
  · simp only [laws_toExprS.f]; rw [if_pos (by omega), if_pos (by omega), Int.toNat_natCast]
  · intro i hi x r hx e
    have e0 := h _ (List.getElem_mem hi)
    have hrd := rdLE l i hi
    generalize l[i] = y at *
    refine Ev.step (f := fun k => (laws_toExpr.f k y.f0 y.f1 y.f2 y.f3 y.f4).bind fun bt126 => (if (i : Int) < (x.length : Int) then (laws_toExprS.l0 k l (x.set ((i : Int)).toNat (⟨bt126.1, bt126.2.1, bt126.2.2.1, bt126.2.2.2.1, bt126.2.2.2.2⟩ : S37)) (wrap64 ((i : Int) + 1))) else none)) (fun k => ?_) (Ev.bind e0 (ev_pos (by omega) ?_))
    · simp only [laws_toExprS.l0]; rw [if_pos (by omega), if_pos (by omega), hrd]
    · rw [w64 _ (by omega) (by omega), Int.toNat_natCast]
      have ec : (⟨y.f0, y.f1, y.f2, cvEL y.f3, cvCL y.f4⟩ : S37) = cvE y := by cases y; rw [cvE]
      simp only [ec]
      exact e
  · intro x hx
    refine Ev.step (f := fun _ => some x) (fun k => ?_) (Ev.now _)
    simp only [laws_toExprS.l0]; rw [if_neg (by omega)]
theorem toCS_of (l : List (P144 S41)) (hl : (l.length : Int) ≤ 1048576)
    (h : ∀ c ∈ l, Ev (fun k => laws_toExpr.f k c.f0.f0 c.f0.f1 c.f0.f2 c.f0.f3 c.f0.f4) (c.f0.f0, c.f0.f1, c.f0.f2, cvEL c.f0.f3, cvCL c.f0.f4) ∧ Ev (fun k => laws_toExpr.f k c.f1.f0 c.f1.f1 c.f1.f2 c.f1.f3 c.f1.f4) (c.f1.f0, c.f1.f1, c.f1.f2, cvEL c.f1.f3, cvCL c.f1.f4)) : Ev (fun k => laws_toClauseS.f k l) (cvCL l) := by
  rw [cvCL_map]
  refine Ev.step (f := fun k => laws_toClauseS.l0 k l (List.replicate l.length z55) 0) (fun k => ?_) (map_loop0 (fun k x i => laws_toClauseS.l0 k l x i) cvC l _ ?_ ?_)
  · simp only [laws_toClauseS.f]; rw [if_pos (by omega), if_pos (by omega), Int.toNat_natCast]
  · intro i hi x r hx e
    have e0 := h _ (List.getElem_mem hi)
    have hrd := rdLC l i hi
    generalize l[i] = c at *
    have e1 : Ev (fun k => laws_toClause.f k c.f0.f0 c.f0.f1 c.f0.f2 c.f0.f3 c.f0.f4 c.f1.f0 c.f1.f1 c.f1.f2 c.f1.f3 c.f1.f4) (c.f0.f0, c.f0.f1, c.f0.f2, cvEL c.f0.f3, cvCL c.f0.f4, c.f1.f0, c.f1.f1, c.f1.f2, cvEL c.f1.f3, cvCL c.f1.f4) :=
      Ev.step (fun k => by simp only [laws_toClause.f]; rfl) (Ev.bind e0.1 (Ev.bind e0.2 (ev_of (o := some (c.f0.f0, c.f0.f1, c.f0.f2, cvEL c.f0.f3, cvCL c.f0.f4, c.f1.f0, c.f1.f1, c.f1.f2, cvEL c.f1.f3, cvCL c.f1.f4)) rfl)))
    refine Ev.step (f := fun k => (laws_toClause.f k c.f0.f0 c.f0.f1 c.f0.f2 c.f0.f3 c.f0.f4 c.f1.f0 c.f1.f1 c.f1.f2 c.f1.f3 c.f1.f4).bind fun bt161 => (if (i : Int) < (x.length : Int) then (laws_toClauseS.l0 k l (x.set ((i : Int)).toNat (⟨(⟨bt161.1, bt161.2.1, bt161.2.2.1, bt161.2.2.2.1, bt161.2.2.2.2.1⟩ : S37), (⟨bt161.2.2.2.2.2.1, bt161.2.2.2.2.2.2.1, bt161.2.2.2.2.2.2.2.1, bt161.2.2.2.2.2.2.2.2.1, bt161.2.2.2.2.2.2.2.2.2⟩ : S37)⟩ : S55)) (wrap64 ((i : Int) + 1))) else none)) (fun k => ?_) (Ev.bind e1 (ev_pos (by omega) ?_))
    · simp only [laws_toClauseS.l0]; rw [if_pos (by omega), if_pos (by omega), hrd]
    · rw [w64 _ (by omega) (by omega), Int.toNat_natCast]
      obtain ⟨p, q⟩ := c
      have ec : (⟨(⟨p.f0, p.f1, p.f2, cvEL p.f3, cvCL p.f4⟩ : S37), (⟨q.f0, q.f1, q.f2, cvEL q.f3, cvCL q.f4⟩ : S37)⟩ : S55) = cvC ⟨p, q⟩ := by cases p; cases q; rw [cvC, cvE, cvE]
      simp only [ec]
      exact e
  · intro x hx
    refine Ev.step (f := fun _ => some x) (fun k => ?_) (Ev.now _)
    simp only [laws_toClauseS.l0]; rw [if_neg (by omega)]
theorem budEL_mem (l : List S41) (x : S41) (h : x ∈ l) : budE x ≤ budEL l := by have := sumB_mem budE l x h; rwa [sumE] at this
theorem budCL_mem (l : List (P144 S41)) (c : P144 S41) (h : c ∈ l) : budE c.f0 + budE c.f1 ≤ budCL l := by
  have := sumB_mem budCc l c h
  rw [sumC] at this
  have hbc : budCc c = budE c.f0 + budE c.f1 := by cases c; rw [budCc]
  omega
theorem toE_all : ∀ x, (budE x : Int) ≤ 1048576 → Ev (fun k => laws_toExpr.f k x.f0 x.f1 x.f2 x.f3 x.f4) (x.f0, x.f1, x.f2, cvEL x.f3, cvCL x.f4) := by
  refine indLE ?_
  intro a b s l m ih ihc hb
  rw [budE] at hb
  refine Ev.step (f := fun k => (laws_toExprS.f k l).bind fun t183 => ((laws_toClauseS.f k m).bind fun t186 => (some (a, b, s, t183, t186)))) (fun k => ?_) (Ev.bind (toES_of l (by omega) (fun y hy => ih y hy (by have := budEL_mem l y hy; omega))) (Ev.bind (toCS_of m (by omega) (fun c hc => ⟨(ihc c hc).1 (by have := budCL_mem m c hc; omega), (ihc c hc).2 (by have := budCL_mem m c hc; omega)⟩)) (Ev.now _)))
  simp only [laws_toExpr.f]
theorem eqES_of (l : List S37) (hl : (l.length : Int) ≤ 4194304) (h : ∀ y ∈ l, Ev (fun k => laws_eqExpr.f k y.f0 y.f1 y.f2 y.f3 y.f4 y.f0 y.f1 y.f2 y.f3 y.f4) true) : Ev (fun k => laws_eqExprS.f k l l) true := by
  refine Ev.step (f := fun k => laws_eqExprS.l0 k l l 0) (fun k => ?_) (ev_cast ?_ (all_loop (fun k i => laws_eqExprS.l0 k l l i) (fun _ => true) l.length ?_ ?_ l.length 0 (by omega)))
  · simp only [laws_eqExprS.f]; rw [if_pos trivial]
  · unfold allFrom; simp
  · intro i hi r hr _
    have e := h _ (List.getElem_mem hi)
    have hrd := rdE l i hi
    generalize l[i] = y at *
    refine Ev.step (f := fun k => (laws_eqExpr.f k y.f0 y.f1 y.f2 y.f3 y.f4 y.f0 y.f1 y.f2 y.f3 y.f4).bind fun t209 => (if t209 = true then (laws_eqExprS.l0 k l l (wrap64 ((i : Int) + 1))) else (some false))) (fun k => ?_) (Ev.bind e (ev_pos rfl ?_))
    · simp only [laws_eqExprS.l0]; rw [if_pos (by omega), if_pos (by omega), if_pos (by omega), hrd]
    · rw [w64 _ (by omega) (by omega)]; exact hr rfl
  · refine Ev.step (f := fun _ => some true) (fun k => ?_) (Ev.now _)
    simp only [laws_eqExprS.l0]; rw [if_neg (by omega)]
theorem eqCS_of (l : List (P55 S37)) (hl : (l.length : Int) ≤ 4194304) (h : ∀ c ∈ l, Ev (fun k => laws_eqExpr.f k c.f0.f0 c.f0.f1 c.f0.f2 c.f0.f3 c.f0.f4 c.f0.f0 c.f0.f1 c.f0.f2 c.f0.f3 c.f0.f4) true ∧ Ev (fun k => laws_eqExpr.f k c.f1.f0 c.f1.f1 c.f1.f2 c.f1.f3 c.f1.f4 c.f1.f0 c.f1.f1 c.f1.f2 c.f1.f3 c.f1.f4) true) : Ev (fun k => laws_eqClauseS.f k l l) true := by
  refine Ev.step (f := fun k => laws_eqClauseS.l0 k l l 0) (fun k => ?_) (ev_cast ?_ (all_loop (fun k i => laws_eqClauseS.l0 k l l i) (fun _ => true) l.length ?_ ?_ l.length 0 (by omega)))
  · simp only [laws_eqClauseS.f]; rw [if_pos trivial]
  · unfold allFrom; simp
  · intro i hi r hr _
    have e := h _ (List.getElem_mem hi)
    have hrd := rdC l i hi
    generalize l[i] = c at *
    have e1 : Ev (fun k => laws_eqClause.f k c.f0.f0 c.f0.f1 c.f0.f2 c.f0.f3 c.f0.f4 c.f1.f0 c.f1.f1 c.f1.f2 c.f1.f3 c.f1.f4 c.f0.f0 c.f0.f1 c.f0.f2 c.f0.f3 c.f0.f4 c.f1.f0 c.f1.f1 c.f1.f2 c.f1.f3 c.f1.f4) true :=
      Ev.step (fun k => by simp only [laws_eqClause.f]; rfl) (Ev.bind e.1 (ev_pos rfl (Ev.bind e.2 (ev_pos rfl (Ev.now _)))))
    refine Ev.step (f := fun k => (laws_eqClause.f k c.f0.f0 c.f0.f1 c.f0.f2 c.f0.f3 c.f0.f4 c.f1.f0 c.f1.f1 c.f1.f2 c.f1.f3 c.f1.f4 c.f0.f0 c.f0.f1 c.f0.f2 c.f0.f3 c.f0.f4 c.f1.f0 c.f1.f1 c.f1.f2 c.f1.f3 c.f1.f4).bind fun t209 => (if t209 = true then (laws_eqClauseS.l0 k l l (wrap64 ((i : Int) + 1))) else (some false))) (fun k => ?_) (Ev.bind e1 (ev_pos rfl ?_))
    · simp only [laws_eqClauseS.l0]; rw [if_pos (by omega), if_pos (by omega), if_pos (by omega), hrd]
    · rw [w64 _ (by omega) (by omega)]; exact hr rfl
  · refine Ev.step (f := fun _ => some true) (fun k => ?_) (Ev.now _)
    simp only [laws_eqClauseS.l0]; rw [if_neg (by omega)]
theorem eqE_all : ∀ x, (budX x : Int) ≤ 4194304 → Ev (fun k => laws_eqExpr.f k x.f0 x.f1 x.f2 x.f3 x.f4 x.f0 x.f1 x.f2 x.f3 x.f4) true := by
  refine indE ?_
  intro a b s l m ih ihc hb
  rw [budX] at hb
  refine Ev.step (f := fun k => (laws_eqExprS.f k l l).bind fun t219 => (if t219 = true then ((laws_eqClauseS.f k m m).bind fun t220 => (if t220 = true then (some true) else (some false))) else (some false))) (fun k => ?_) (Ev.bind (eqES_of l (by omega) (fun y hy => ih y hy (by have := budXL_mem l y hy; omega))) (ev_pos rfl (Ev.bind (eqCS_of m (by omega) (fun c hc => ⟨(ihc c hc).1 (by have := budXC_mem m c hc; omega), (ihc c hc).2 (by have := budXC_mem m c hc; omega)⟩)) (ev_pos rfl (Ev.now _)))))
  simp only [laws_eqExpr.f]
  simp
theorem pair_loop {α : Type} (L : Nat → Int → Option Bool) (same : α → α → Bool) (sameL : List α → List α → Bool) (h0 : sameL [] [] = true) (h1 : ∀ x r y r2, sameL (x :: r) (y :: r2) = (same x y && sameL r r2)) (l m : List α) (hm : l.length = m.length) (b : Bool)
    (hstep : ∀ (i : Nat) (h : i < l.length) (h2 : i < m.length) (r : Bool), (same l[i] m[i] = true → Ev (fun k => L k ((i + 1 : Nat) : Int)) r) → (same l[i] m[i] = false → r = false) → Ev (fun k => L k (i : Int)) r)
    (hend : Ev (fun k => L k (l.length : Int)) b) (d : Nat) : ∀ i : Nat, i + d = l.length → Ev (fun k => L k (i : Int)) (sameL (l.drop i) (m.drop i) && b) := by
  induction d with
  | zero =>
    intro i hi
    have e : i = l.length := by omega
    subst e
    refine ev_cast ?_ hend
    rw [List.drop_eq_nil_of_le (by omega), List.drop_eq_nil_of_le (by omega), h0, Bool.true_and]
  | succ d ih =>
    intro i hi
    have hlt : i < l.length := by omega
    have hlt2 : i < m.length := by omega
    rw [List.drop_eq_getElem_cons hlt, List.drop_eq_getElem_cons hlt2, h1]
    refine hstep i hlt hlt2 _ (fun hp => ?_) (fun hp => ?_)
    · rw [hp, Bool.true_and]; exact ih (i + 1) (by omega)
    · rw [hp, Bool.false_and, Bool.false_and]
mutual
def sameE : S37 → S37 → Bool
  | ⟨a, b, s, l, m⟩, y => decide (a = y.f0) && (decide (b = y.f1) && (decide (s.toList = y.f2.toList) && (sameEL l y.f3 && sameCL m y.f4)))
def sameEL : List S37 → List S37 → Bool
  | [], l => l.isEmpty
  | x :: r, l => match l with
    | [] => false
    | y :: r2 => sameE x y && sameEL r r2
def sameC : P55 S37 → P55 S37 → Bool
  | ⟨p, x⟩, c => sameE p c.f0 && sameE x c.f1
def sameCL : List (P55 S37) → List (P55 S37) → Bool
  | [], l => l.isEmpty
  | x :: r, l => match l with
    | [] => false
    | y :: r2 => sameC x y && sameCL r r2
end
theorem sameEL_len : ∀ l m, sameEL l m = true → l.length = m.length
  | [], m, h => by rw [sameEL] at h; cases m <;> simp_all
  | x :: r, [], h => by rw [sameEL] at h; cases h
  | x :: r, y :: r2, h => by
    rw [sameEL, Bool.and_eq_true] at h
    rw [List.length_cons, List.length_cons, sameEL_len r r2 h.2]
theorem sameCL_len : ∀ l m, sameCL l m = true → l.length = m.length
  | [], m, h => by rw [sameCL] at h; cases m <;> simp_all
  | x :: r, [], h => by rw [sameCL] at h; cases h
  | x :: r, y :: r2, h => by
    rw [sameCL, Bool.and_eq_true] at h
    rw [List.length_cons, List.length_cons, sameCL_len r r2 h.2]
theorem sameC_eq (c d : P55 S37) : sameC c d = (sameE c.f0 d.f0 && sameE c.f1 d.f1) := by cases c; rw [sameC]
theorem spec_SameE_all : ∀ x, (budX x : Int) ≤ 4194304 → ∀ z, Ev (fun k => spec_SameExpr.f k x.f0 x.f1 x.f2 x.f3 x.f4 z.f0 z.f1 z.f2 z.f3 z.f4) (sameE x z) := by
  refine indE ?_
  intro a b s l m ih ihc hb z
  rw [budX] at hb
  obtain ⟨a2, b2, s2, l2, m2⟩ := z
  have no : Ev (fun k => spec_SameExpr.j0 k true a b s l m a2 b2 s2 l2 m2) false := Ev.step (f := fun _ => some false) (fun k => by simp [spec_SameExpr.j0]) (Ev.now _)
  rw [sameE]
  simp only []
  by_cases h1 : a = a2
  · by_cases h2 : b = b2
    · by_cases h3 : s.toList = s2.toList
      · by_cases h4 : l.length = l2.length
        · by_cases h5 : m.length = m2.length
          · have e1 : Ev (fun k => spec_SameExpr.l1 k 0 a b s l m a2 b2 s2 l2 m2) (sameCL m m2 && true) := by
              refine pair_loop (fun k i => spec_SameExpr.l1 k i a b s l m a2 b2 s2 l2 m2) sameC sameCL (by rw [sameCL]; rfl) (fun x r y r2 => by rw [sameCL]) m m2 h5 true ?_ ?_ m.length 0 (by omega)
              · intro i hi hi2 r hr hn
                have hmem := List.getElem_mem hi
                have hbm := budXC_mem m _ hmem
                have q0 := (ihc _ hmem).1 (by omega) m2[i].f0
                have q1 := (ihc _ hmem).2 (by omega) m2[i].f1
                have r0 := rdC m i hi
                have r1 := rdC m2 i hi2
                rw [sameC_eq] at hr hn
                generalize m[i] = c at *
                generalize m2[i] = c2 at *
                refine Ev.step (f := fun k => (spec_SameExpr.f k c.f0.f0 c.f0.f1 c.f0.f2 c.f0.f3 c.f0.f4 c2.f0.f0 c2.f0.f1 c2.f0.f2 c2.f0.f3 c2.f0.f4).bind fun t118 => (if t118 = true then ((spec_SameExpr.f k c.f1.f0 c.f1.f1 c.f1.f2 c.f1.f3 c.f1.f4 c2.f1.f0 c2.f1.f1 c2.f1.f2 c2.f1.f3 c2.f1.f4).bind fun t121 => (if t121 = true then (spec_SameExpr.l1 k (wrap64 ((i : Int) + 1)) a b s l m a2 b2 s2 l2 m2) else (some false))) else (some false))) (fun k => ?_) (Ev.bind q0 ?_)
                · simp only [spec_SameExpr.l1]; rw [if_pos (by omega), if_pos (by omega), if_pos (by omega), r0, r1]
                · rw [w64 _ (by omega) (by omega)]
                  cases g0 : sameE c.f0 c2.f0 with
                  | false => exact ev_neg (by decide) (ev_cast (hn (by rw [g0]; rfl)).symm (Ev.now _))
                  | true =>
                    refine ev_pos rfl (Ev.bind q1 ?_)
                    cases g1 : sameE c.f1 c2.f1 with
                    | false => exact ev_neg (by decide) (ev_cast (hn (by rw [g0, g1]; rfl)).symm (Ev.now _))
                    | true => exact ev_pos rfl (hr (by rw [g0, g1]; rfl))
              · refine Ev.step (f := fun _ => some true) (fun k => ?_) (Ev.now _)
                simp only [spec_SameExpr.l1]; rw [if_neg (by omega)]
            have e0 : Ev (fun k => spec_SameExpr.l0 k 0 a b s l m a2 b2 s2 l2 m2) (sameEL l l2 && (sameCL m m2 && true)) := by
              refine pair_loop (fun k i => spec_SameExpr.l0 k i a b s l m a2 b2 s2 l2 m2) sameE sameEL (by rw [sameEL]; rfl) (fun x r y r2 => by rw [sameEL]) l l2 h4 _ ?_ ?_ l.length 0 (by omega)
              · intro i hi hi2 r hr hn
                have hmem := List.getElem_mem hi
                have hbm := budXL_mem l _ hmem
                have q0 := ih _ hmem (by omega) l2[i]
                have r0 := rdE l i hi
                have r1 := rdE l2 i hi2
                generalize l[i] = y at *
                generalize l2[i] = y2 at *
                refine Ev.step (f := fun k => (spec_SameExpr.f k y.f0 y.f1 y.f2 y.f3 y.f4 y2.f0 y2.f1 y2.f2 y2.f3 y2.f4).bind fun t115 => (if t115 = true then (spec_SameExpr.l0 k (wrap64 ((i : Int) + 1)) a b s l m a2 b2 s2 l2 m2) else (some false))) (fun k => ?_) (Ev.bind q0 ?_)
                · simp only [spec_SameExpr.l0]; rw [if_pos (by omega), if_pos (by omega), if_pos (by omega), r0, r1]
                · rw [w64 _ (by omega) (by omega)]
                  cases g0 : sameE y y2 with
                  | false => exact ev_neg (by decide) (ev_cast (hn g0).symm (Ev.now _))
                  | true => exact ev_pos rfl (hr g0)
              · refine Ev.step (f := fun k => spec_SameExpr.l1 k 0 a b s l m a2 b2 s2 l2 m2) (fun k => ?_) e1
                simp only [spec_SameExpr.l0]; rw [if_neg (by omega)]
            refine Ev.step (f := fun k => spec_SameExpr.j0 k false a b s l m a2 b2 s2 l2 m2) (fun k => ?_) (Ev.step (f := fun k => spec_SameExpr.l0 k 0 a b s l m a2 b2 s2 l2 m2) (fun k => ?_) (ev_cast ?_ e0))
            · simp only [spec_SameExpr.f]; rw [if_pos h1, if_pos h2, if_pos h3, if_pos (by omega), h5]; simp
            · simp only [spec_SameExpr.j0]; rw [if_neg (by decide)]
            · simp [h1, h2, h3]
          · refine Ev.step (f := fun k => spec_SameExpr.j0 k true a b s l m a2 b2 s2 l2 m2) (fun k => ?_) (ev_cast ?_ no)
            · simp only [spec_SameExpr.f]; rw [if_pos h1, if_pos h2, if_pos h3, if_pos (by omega)]
              congr 1
              simp; omega
            · cases hs : sameCL m m2 with
              | true => exact absurd (sameCL_len m m2 hs) h5
              | false => simp
        · refine Ev.step (f := fun k => spec_SameExpr.j0 k true a b s l m a2 b2 s2 l2 m2) (fun k => ?_) (ev_cast ?_ no)
          · simp only [spec_SameExpr.f]; rw [if_pos h1, if_pos h2, if_pos h3, if_neg (by omega)]
          · cases hs : sameEL l l2 with
            | true => exact absurd (sameEL_len l l2 hs) h4
            | false => simp
      · refine Ev.step (f := fun k => spec_SameExpr.j0 k true a b s l m a2 b2 s2 l2 m2) (fun k => ?_) (ev_cast ?_ no)
        · simp only [spec_SameExpr.f]; rw [if_pos h1, if_pos h2, if_neg h3]
        · simp [h3]
    · refine Ev.step (f := fun k => spec_SameExpr.j0 k true a b s l m a2 b2 s2 l2 m2) (fun k => ?_) (ev_cast ?_ no)
      · simp only [spec_SameExpr.f]; rw [if_pos h1, if_neg h2]
      · simp [h2]
  · refine Ev.step (f := fun k => spec_SameExpr.j0 k true a b s l m a2 b2 s2 l2 m2) (fun k => ?_) (ev_cast ?_ no)
    · simp only [spec_SameExpr.f]; rw [if_neg h1]
    · simp [h1]
theorem impl_EqE_of (l l2 : List S37) (hl : (l.length : Int) ≤ 4194304) (h : ∀ y ∈ l, ∀ z, Ev (fun k => impl_SameExpr.f k y.f0 y.f1 y.f2 y.f3 y.f4 z.f0 z.f1 z.f2 z.f3 z.f4) (sameE y z)) : Ev (fun k => slices_EqualFunc_of_impl_SameExpr.f k l l2) (sameEL l l2) := by
  by_cases h4 : l.length = l2.length
  · refine Ev.step (f := fun k => slices_EqualFunc_of_impl_SameExpr.l0 k l2 l (l.length : Int) 0) (fun k => ?_) (ev_cast (by simp) (pair_loop (fun k i => slices_EqualFunc_of_impl_SameExpr.l0 k l2 l (l.length : Int) i) sameE sameEL (by rw [sameEL]; rfl) (fun x r y r2 => by rw [sameEL]) l l2 h4 true ?_ ?_ l.length 0 (by omega)))
    · simp only [slices_EqualFunc_of_impl_SameExpr.f]; rw [if_pos (by omega)]
    · intro i hi hi2 r hr hn
      have q0 := h _ (List.getElem_mem hi) l2[i]
      have r0 := rdE l i hi
      have r1 := rdE l2 i hi2
      generalize l[i] = y at *
      generalize l2[i] = y2 at *
      refine Ev.step (f := fun k => (impl_SameExpr.f k y.f0 y.f1 y.f2 y.f3 y.f4 y2.f0 y2.f1 y2.f2 y2.f3 y2.f4).bind fun t => (if t = true then (slices_EqualFunc_of_impl_SameExpr.l0 k l2 l (l.length : Int) (wrap64 ((i : Int) + 1))) else (some false))) (fun k => ?_) (Ev.bind q0 ?_)
      · simp only [slices_EqualFunc_of_impl_SameExpr.l0]; rw [if_pos (by omega), if_pos (by omega), if_pos (by omega), if_pos (by omega), r0, r1]
      · rw [w64 _ (by omega) (by omega)]
        cases g0 : sameE y y2 with
        | false => exact ev_neg (by decide) (ev_cast (hn g0).symm (Ev.now _))
        | true => exact ev_pos rfl (hr g0)
    · refine Ev.step (f := fun _ => some true) (fun k => ?_) (Ev.now _)
      simp only [slices_EqualFunc_of_impl_SameExpr.l0]; rw [if_neg (by omega)]
  · refine Ev.step (f := fun _ => some false) (fun k => ?_) (ev_cast ?_ (Ev.now _))
    · simp only [slices_EqualFunc_of_impl_SameExpr.f]; rw [if_neg (by omega)]
    · cases hs : sameEL l l2 with
      | true => exact absurd (sameEL_len l l2 hs) h4
      | false => rfl
theorem impl_EqC_of (l l2 : List (P55 S37)) (hl : (l.length : Int) ≤ 4194304) (h : ∀ c ∈ l, (∀ z, Ev (fun k => impl_SameExpr.f k c.f0.f0 c.f0.f1 c.f0.f2 c.f0.f3 c.f0.f4 z.f0 z.f1 z.f2 z.f3 z.f4) (sameE c.f0 z)) ∧ (∀ z, Ev (fun k => impl_SameExpr.f k c.f1.f0 c.f1.f1 c.f1.f2 c.f1.f3 c.f1.f4 z.f0 z.f1 z.f2 z.f3 z.f4) (sameE c.f1 z))) : Ev (fun k => slices_EqualFunc_of_impl_SameExpr_1.f k l l2) (sameCL l l2) := by
  by_cases h4 : l.length = l2.length
  · refine Ev.step (f := fun k => slices_EqualFunc_of_impl_SameExpr_1.l0 k l2 l (l.length : Int) 0) (fun k => ?_) (ev_cast (by simp) (pair_loop (fun k i => slices_EqualFunc_of_impl_SameExpr_1.l0 k l2 l (l.length : Int) i) sameC sameCL (by rw [sameCL]; rfl) (fun x r y r2 => by rw [sameCL]) l l2 h4 true ?_ ?_ l.length 0 (by omega)))
    · simp only [slices_EqualFunc_of_impl_SameExpr_1.f]; rw [if_pos (by omega)]
    · intro i hi hi2 r hr hn
      have q0 := h _ (List.getElem_mem hi)
      have r0 := rdC l i hi
      have r1 := rdC l2 i hi2
      rw [sameC_eq] at hr hn
      generalize l[i] = c at *
      generalize l2[i] = c2 at *
      have e1 : Ev (fun k => impl_SameExpr_1.f k c.f0.f0 c.f0.f1 c.f0.f2 c.f0.f3 c.f0.f4 c.f1.f0 c.f1.f1 c.f1.f2 c.f1.f3 c.f1.f4 c2.f0.f0 c2.f0.f1 c2.f0.f2 c2.f0.f3 c2.f0.f4 c2.f1.f0 c2.f1.f1 c2.f1.f2 c2.f1.f3 c2.f1.f4) (sameE c.f0 c2.f0 && sameE c.f1 c2.f1) := by
        refine Ev.step (f := fun k => (impl_SameExpr.f k c.f0.f0 c.f0.f1 c.f0.f2 c.f0.f3 c.f0.f4 c2.f0.f0 c2.f0.f1 c2.f0.f2 c2.f0.f3 c2.f0.f4).bind fun t196 => (if t196 = true then ((impl_SameExpr.f k c.f1.f0 c.f1.f1 c.f1.f2 c.f1.f3 c.f1.f4 c2.f1.f0 c2.f1.f1 c2.f1.f2 c2.f1.f3 c2.f1.f4).bind fun t197 => (some t197)) else (some false))) (fun k => rfl) (Ev.bind (q0.1 c2.f0) ?_)
        cases g0 : sameE c.f0 c2.f0 with
        | false => exact ev_neg (by decide) (Ev.now _)
        | true => exact ev_pos rfl (Ev.bind (q0.2 c2.f1) (ev_cast (by simp) (Ev.now _)))
      refine Ev.step (f := fun k => (impl_SameExpr_1.f k c.f0.f0 c.f0.f1 c.f0.f2 c.f0.f3 c.f0.f4 c.f1.f0 c.f1.f1 c.f1.f2 c.f1.f3 c.f1.f4 c2.f0.f0 c2.f0.f1 c2.f0.f2 c2.f0.f3 c2.f0.f4 c2.f1.f0 c2.f1.f1 c2.f1.f2 c2.f1.f3 c2.f1.f4).bind fun t => (if t = true then (slices_EqualFunc_of_impl_SameExpr_1.l0 k l2 l (l.length : Int) (wrap64 ((i : Int) + 1))) else (some false))) (fun k => ?_) (Ev.bind e1 ?_)
      · simp only [slices_EqualFunc_of_impl_SameExpr_1.l0]; rw [if_pos (by omega), if_pos (by omega), if_pos (by omega), if_pos (by omega), r0, r1]
      · rw [w64 _ (by omega) (by omega)]
        cases g0 : (sameE c.f0 c2.f0 && sameE c.f1 c2.f1) with
        | false => exact ev_neg (by decide) (ev_cast (hn g0).symm (Ev.now _))
        | true => exact ev_pos rfl (hr g0)
    · refine Ev.step (f := fun _ => some true) (fun k => ?_) (Ev.now _)
      simp only [slices_EqualFunc_of_impl_SameExpr_1.l0]; rw [if_neg (by omega)]
  · refine Ev.step (f := fun _ => some false) (fun k => ?_) (ev_cast ?_ (Ev.now _))
    · simp only [slices_EqualFunc_of_impl_SameExpr_1.f]; rw [if_neg (by omega)]
    · cases hs : sameCL l l2 with
      | true => exact absurd (sameCL_len l l2 hs) h4
      | false => rfl
theorem impl_SameE_all : ∀ x, (budX x : Int) ≤ 4194304 → ∀ z, Ev (fun k => impl_SameExpr.f k x.f0 x.f1 x.f2 x.f3 x.f4 z.f0 z.f1 z.f2 z.f3 z.f4) (sameE x z) := by
  refine indE ?_
  intro a b s l m ih ihc hb z
  rw [budX] at hb
  obtain ⟨a2, b2, s2, l2, m2⟩ := z
  have eE := impl_EqE_of l l2 (by omega) (fun y hy z => ih y hy (by have := budXL_mem l y hy; omega) z)
  have eC := impl_EqC_of m m2 (by omega) (fun c hc => ⟨(ihc c hc).1 (by have := budXC_mem m c hc; omega), (ihc c hc).2 (by have := budXC_mem m c hc; omega)⟩)
  rw [sameE]
  simp only []
  by_cases h1 : a = a2
  · by_cases h2 : b = b2
    · by_cases h3 : s.toList = s2.toList
      · refine Ev.step (f := fun k => (slices_EqualFunc_of_impl_SameExpr.f k l l2).bind fun t205 => (if t205 = true then ((slices_EqualFunc_of_impl_SameExpr_1.f k m m2).bind fun t206 => (some t206)) else (some false))) (fun k => ?_) (Ev.bind eE ?_)
        · simp only [impl_SameExpr.f]; rw [if_pos h1, if_pos h2, if_pos h3]
        · rw [decide_eq_true h1, decide_eq_true h2, decide_eq_true h3]
          cases g0 : sameEL l l2 with
          | false => exact ev_neg (by decide) (Ev.now _)
          | true => exact ev_pos rfl (Ev.bind eC (ev_cast (by simp) (Ev.now _)))
      · refine Ev.step (f := fun _ => some false) (fun k => ?_) (ev_cast ?_ (Ev.now _))
        · simp only [impl_SameExpr.f]; rw [if_pos h1, if_pos h2, if_neg h3]
        · simp [h3]
    · refine Ev.step (f := fun _ => some false) (fun k => ?_) (ev_cast ?_ (Ev.now _))
      · simp only [impl_SameExpr.f]; rw [if_pos h1, if_neg h2]
      · simp [h2]
  · refine Ev.step (f := fun _ => some false) (fun k => ?_) (ev_cast ?_ (Ev.now _))
    · simp only [impl_SameExpr.f]; rw [if_neg h1]
    · simp [h1]
theorem FnExactSameExpr : laws_FnExactSameExpr.Pure := by
  intro a b s l m a2 b2 s2 l2 m2 hw hw2
  refine Ev.rounds (g := fun k => laws_FnExactSameExpr.f k a b s l m a2 b2 s2 l2 m2) ?_
  unfold laws_FnExactSameExpr.f
  refine Ev.bind (szE_all ⟨a, b, s, l, m⟩ hw 1048576 (by omega) (by omega)) ?_
  unfold szRes
  by_cases hb : (budE ⟨a, b, s, l, m⟩ : Int) ≤ 1048576
  · rw [if_pos hb]
    refine ev_neg (by omega) ?_
    have hi : (budX (cvE ⟨a, b, s, l, m⟩) : Int) ≤ 1048576 := by rw [budX_cv]; exact hb
    rw [cvE] at hi
    have ht : Ev (fun k => laws_toExpr.f k a b s l m) (a, b, s, cvEL l, cvCL m) := toE_all ⟨a, b, s, l, m⟩ hb
    generalize hx : (1048576 : Int) - (budE ⟨a, b, s, l, m⟩ : Int) = x5
    refine Ev.step (f := fun k => (laws_szExpr.f k a2 b2 s2 l2 m2 x5).bind fun t224 => (if t224 < 0 then (some true) else (laws_FnExactSameExpr.j1 k a b s l m a2 b2 s2 l2 m2))) (fun k => rfl) (Ev.bind (szE_all ⟨a2, b2, s2, l2, m2⟩ hw2 x5 (by omega) (by omega)) ?_)
    unfold szRes
    by_cases hb2 : (budE ⟨a2, b2, s2, l2, m2⟩ : Int) ≤ x5
    · rw [if_pos hb2]
      refine ev_neg (by omega) ?_
      have hi2 : (budX (cvE ⟨a2, b2, s2, l2, m2⟩) : Int) ≤ 1048576 := by rw [budX_cv]; omega
      rw [cvE] at hi2
      have ht2 : Ev (fun k => laws_toExpr.f k a2 b2 s2 l2 m2) (a2, b2, s2, cvEL l2, cvCL m2) := toE_all ⟨a2, b2, s2, l2, m2⟩ (by omega)
      refine Ev.step (f := fun k => (laws_toExpr.f k a b s l m).bind fun bt225 => ((laws_toExpr.f k a2 b2 s2 l2 m2).bind fun bt234 => ((spec_SameExpr.f k bt225.1 bt225.2.1 bt225.2.2.1 bt225.2.2.2.1 bt225.2.2.2.2 bt234.1 bt234.2.1 bt234.2.2.1 bt234.2.2.2.1 bt234.2.2.2.2).bind fun t243 => ((laws_toExpr.f k a b s l m).bind fun bt244 => ((laws_toExpr.f k a2 b2 s2 l2 m2).bind fun bt254 => ((impl_SameExpr.f k bt244.1 bt244.2.1 bt244.2.2.1 bt244.2.2.2.1 bt244.2.2.2.2 bt254.1 bt254.2.1 bt254.2.2.1 bt254.2.2.2.1 bt254.2.2.2.2).bind fun t264 => (if (t264 != t243) = true then (some false) else (laws_FnExactSameExpr.j2 k a b s l m a2 b2 s2 l2 m2 bt244.1 bt244.2.1 bt244.2.2.1 bt244.2.2.2.1 bt244.2.2.2.2 bt254.1 bt254.2.1 bt254.2.2.1 bt254.2.2.2.1 bt254.2.2.2.2)))))))) (fun k => rfl)
        (Ev.bind ht (Ev.bind ht2 (Ev.bind (spec_SameE_all ⟨a, b, s, cvEL l, cvCL m⟩ (by omega) ⟨a2, b2, s2, cvEL l2, cvCL m2⟩) (Ev.bind ht (Ev.bind ht2 (Ev.bind (impl_SameE_all ⟨a, b, s, cvEL l, cvCL m⟩ (by omega) ⟨a2, b2, s2, cvEL l2, cvCL m2⟩) (ev_neg (by simp) ?_)))))))
      exact Ev.step (f := fun k => (laws_toExpr.f k a b s l m).bind fun bt265 => ((laws_eqExpr.f k a b s (cvEL l) (cvCL m) bt265.1 bt265.2.1 bt265.2.2.1 bt265.2.2.2.1 bt265.2.2.2.2).bind fun t274 => (if t274 = true then ((laws_toExpr.f k a2 b2 s2 l2 m2).bind fun bt275 => ((laws_eqExpr.f k a2 b2 s2 (cvEL l2) (cvCL m2) bt275.1 bt275.2.1 bt275.2.2.1 bt275.2.2.2.1 bt275.2.2.2.2).bind fun t284 => (if t284 = true then (some true) else (some false)))) else (some false)))) (fun k => rfl)
        (Ev.bind ht (Ev.bind (eqE_all ⟨a, b, s, cvEL l, cvCL m⟩ (by omega)) (ev_pos rfl (Ev.bind ht2 (Ev.bind (eqE_all ⟨a2, b2, s2, cvEL l2, cvCL m2⟩ (by omega)) (ev_pos rfl (Ev.now _)))))))
    · rw [if_neg hb2]
      exact ev_pos (by omega) (Ev.now _)
  · rw [if_neg hb]
    exact ev_pos (by omega) (Ev.now _)

end Go.Proofs.Ytjcdpfbbnmflcaa.Pure
