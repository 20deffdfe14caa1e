/- What the law FnExactCallsOf of this seat says holds for every input that its row speaks of; no further condition. -/
import Derived.Test.YtogeameinakelaaQFnExactCallsOfx7
set_option linter.unusedVariables false
set_option linter.unusedSimpArgs false
namespace Go.Proofs.Ytogeameinakelaa.Pure
open Go.RowKit Go.Proofs.Ytogeameinakelaa.QFnExactCallsOf Go.Proofs.YtogeameinakelaaW.PrintWords Go.Proofs.YtogeameinakelaaW.PrintLast Go.Proofs.YtogeameinakelaaW.PrintMore

theorem ev_pos {α : Type} {c : Prop} [Decidable c] {A B : Nat → Option α} {r : α} (h : c) (e : Ev A r) : Ev (fun k => if c then A k else B k) r := by
  obtain ⟨K, hK⟩ := e
  exact ⟨K, fun k hk => by simp only [if_pos h]; exact hK k hk⟩
theorem ev_neg {α : Type} {c : Prop} [Decidable c] {A B : Nat → Option α} {r : α} (h : ¬ c) (e : Ev B r) : Ev (fun k => if c then A k else B k) r := by
  obtain ⟨K, hK⟩ := e
  exact ⟨K, fun k hk => by simp only [if_neg h]; exact hK k hk⟩
theorem ev_of {α : Type} {o : Option α} {r : α} (h : o = some r) : Ev (fun _ => o) r := ⟨0, fun _ _ => h⟩
theorem ev_cast {α : Type} {g : Nat → Option α} {r r' : α} (h : r = r') (e : Ev g r) : Ev g r' := h ▸ e
theorem w64 (n : Int) (h0 : -9223372036854775808 ≤ n) (h1 : n ≤ 9223372036854775807) : wrap64 n = n := by unfold wrap64; omega
def szRes (left : Int) (b : Nat) : Int := if (b : Int) ≤ left then left - b else -1
theorem getDG {α : Type} (z : α) (l : List α) (i : Nat) (h : i < l.length) : l.getD ((i : Int)).toNat z = l[i] := by
  simp [List.getD_eq_getElem?_getD, List.getElem?_eq_getElem h]
theorem map_loop {α β : Type} (L : Nat → List β → Int → Option (List β)) (f : α → β) (l : List α)
    (hstep : ∀ (i : Nat) (h : i < l.length) (x : List β) (r : List β), x.length = l.length → Ev (fun k => L k (x.set i (f l[i])) ((i + 1 : Nat) : Int)) r → Ev (fun k => L k x (i : Int)) r)
    (hend : ∀ x : List β, x.length = l.length → Ev (fun k => L k x (l.length : Int)) x) (d : Nat) :
    ∀ (i : Nat) (x : List β), i + d = l.length → x.length = l.length → x.take i = (l.map f).take i → Ev (fun k => L k x (i : Int)) (l.map f) := by
  induction d with
  | zero =>
    intro i x hi hx ht
    have e : i = l.length := by omega
    subst e
    refine ev_cast ?_ (hend x hx)
    rwa [List.take_of_length_le (by omega), List.take_of_length_le (by rw [List.length_map]; omega)] at ht
  | succ d ih =>
    intro i x hi hx ht
    have hlt : i < l.length := by omega
    refine hstep i hlt x _ hx (ih (i + 1) _ (by omega) (by simpa using hx) ?_)
    rw [List.take_succ_eq_append_getElem (by simpa using (by omega : i < x.length)), List.take_set_of_le (Nat.le_refl i), ht, List.take_succ_eq_append_getElem (by simpa using hlt)]
    simp
theorem map_loop0 {α β : Type} (L : Nat → List β → Int → Option (List β)) (f : α → β) (l : List α) (z : β)
    (hstep : ∀ (i : Nat) (h : i < l.length) (x : List β) (r : List β), x.length = l.length → Ev (fun k => L k (x.set i (f l[i])) ((i + 1 : Nat) : Int)) r → Ev (fun k => L k x (i : Int)) r)
    (hend : ∀ x : List β, x.length = l.length → Ev (fun k => L k x (l.length : Int)) x) : Ev (fun k => L k (List.replicate l.length z) 0) (l.map f) :=
  map_loop L f l hstep hend l.length 0 (List.replicate l.length z) (by omega) (by simp) (by simp)
def sumB {α : Type} (bud : α → Nat) : List α → Nat
  | [] => 0
  | x :: r => bud x + sumB bud r
theorem sumB_drop {α : Type} (bud : α → Nat) (l : List α) (i : Nat) (h : i < l.length) : sumB bud (l.drop i) = bud l[i] + sumB bud (l.drop (i + 1)) := by
  rw [List.drop_eq_getElem_cons h, sumB]
theorem sumB_mem {α : Type} (bud : α → Nat) : ∀ (l : List α) (x : α), x ∈ l → bud x ≤ sumB bud l
  | [], x, h => by cases h
  | y :: r, x, h => by
    rw [sumB]
    rcases List.mem_cons.1 h with rfl | h
    · omega
    · have := sumB_mem bud r x h; omega
theorem sz_loopG {α : Type} (L : Nat → Int → Int → Option Int) (bud : α → Nat) (l : List α)
    (hstep : ∀ (i : Nat) (h : i < l.length) (left r : Int), 0 ≤ left → left ≤ 1048576 → ((bud l[i] : Int) ≤ left → Ev (fun k => L k (left - bud l[i]) ((i + 1 : Nat) : Int)) r) → (¬ (bud l[i] : Int) ≤ left → r = -1) → Ev (fun k => L k left (i : Int)) r)
    (hend : ∀ left : Int, Ev (fun k => L k left (l.length : Int)) left) (d : Nat) :
    ∀ (i : Nat) (left : Int), i + d = l.length → 0 ≤ left → left ≤ 1048576 → Ev (fun k => L k left (i : Int)) (szRes left (sumB bud (l.drop i))) := by
  induction d with
  | zero =>
    intro i left hi h0 h1
    have e : i = l.length := by omega
    subst e
    refine ev_cast ?_ (hend left)
    rw [List.drop_eq_nil_of_le (by omega), sumB]; unfold szRes; rw [if_pos (by omega)]; omega
  | succ d ih =>
    intro i left hi h0 h1
    have hlt : i < l.length := by omega
    rw [sumB_drop bud l i hlt]
    refine hstep i hlt left _ h0 h1 (fun hb => ?_) (fun hb => ?_)
    · refine ev_cast ?_ (ih (i + 1) (left - bud l[i]) (by omega) (by omega) (by omega))
      unfold szRes
      by_cases hc : (sumB bud (l.drop (i + 1)) : Int) ≤ left - bud l[i]
      · rw [if_pos hc, if_pos (by omega)]; omega
      · rw [if_neg hc, if_neg (by omega)]
    · unfold szRes; rw [if_neg (by omega)]
def allFrom (p : Nat → Bool) (i d : Nat) : Bool := (List.range' i d).all p
theorem all_loop (L : Nat → Int → Option Bool) (p : Nat → Bool) (n : Nat)
    (hstep : ∀ (i : Nat), i < n → ∀ r, (p i = true → Ev (fun k => L k ((i + 1 : Nat) : Int)) r) → (p i = false → r = false) → Ev (fun k => L k (i : Int)) r)
    (hend : Ev (fun k => L k (n : Int)) true) (d : Nat) : ∀ i : Nat, i + d = n → Ev (fun k => L k (i : Int)) (allFrom p i d) := by
  induction d with
  | zero =>
    intro i hi
    have e : i = n := by omega
    subst e
    exact hend
  | succ d ih =>
    intro i hi
    refine hstep i (by omega) _ (fun hp => ?_) (fun hp => ?_)
    · refine ev_cast ?_ (ih (i + 1) (by omega))
      unfold allFrom
      rw [List.range'_succ, List.all_cons, hp, Bool.true_and]
    · unfold allFrom
      rw [List.range'_succ, List.all_cons, hp, Bool.false_and]
theorem rdE (l : List S32) (i : Nat) (h : i < l.length) : rd_T32 l (i : Int) = l[i] := getDG _ l i h
theorem rdC (l : List S42) (i : Nat) (h : i < l.length) : rd_T42 l (i : Int) = l[i] := getDG _ l i h
theorem indE {P : S32 → Prop} (h : ∀ a b s l m, (∀ y ∈ l, P y) → (∀ c : P42 S32, c ∈ m → P c.f0 ∧ P c.f1) → P ⟨a, b, s, l, m⟩) : ∀ x, P x := by
  intro x
  refine S32.rec (motive_1 := P) (motive_2 := fun l => ∀ y ∈ l, P y) (motive_3 := fun m => ∀ c ∈ m, P c.f0 ∧ P c.f1) (motive_4 := fun c => P c.f0 ∧ P c.f1) ?_ ?_ ?_ ?_ ?_ ?_ x
  · intro a b s l m hl hm
    exact h a b s l m hl hm
  · intro y hy; cases hy
  · intro x r hx hr y hy
    rcases List.mem_cons.1 hy with rfl | hy
    · exact hx
    · exact hr y hy
  · intro y hy; cases hy
  · intro x r hx hr y hy
    rcases List.mem_cons.1 hy with rfl | hy
    · exact hx
    · exact hr y hy
  · intro p q hp hq
    exact ⟨hp, hq⟩
mutual
def budX : S32 → Nat
  | ⟨_, _, s, l, m⟩ => s.size + (l.length + budXL l) + (m.length + budXC m)
def budXL : List S32 → Nat
  | [] => 0
  | x :: r => budX x + budXL r
def budXc : P42 S32 → Nat
  | ⟨p, x⟩ => budX p + budX x
def budXC : List (P42 S32) → Nat
  | [] => 0
  | x :: r => budXc x + budXC r
end
theorem budXL_mem : ∀ (l : List S32) (x : S32), x ∈ l → budX x ≤ budXL l
  | [], x, h => by cases h
  | y :: r, x, h => by
    rw [budXL]
    rcases List.mem_cons.1 h with rfl | h
    · omega
    · have := budXL_mem r x h; omega
theorem budXC_mem : ∀ (l : List (P42 S32)) (c : P42 S32), c ∈ l → budX c.f0 + budX c.f1 ≤ budXC l
  | [], x, h => by cases h
  | y :: r, x, h => by
    rw [budXC]
    rcases List.mem_cons.1 h with rfl | h
    · obtain ⟨p, q⟩ := x
      rw [budXc]
      show budX p + budX q ≤ _
      omega
    · have := budXC_mem r x h; omega
theorem rdLE (l : List S25) (i : Nat) (h : i < l.length) : rd_T25 l (i : Int) = l[i] := getDG _ l i h
theorem rdLC (l : List S54) (i : Nat) (h : i < l.length) : rd_T54 l (i : Int) = l[i] := getDG _ l i h
theorem indLE {P : S25 → Prop} (h : ∀ a b s l m, (∀ y ∈ l, P y) → (∀ c : P54 S25, c ∈ m → P c.f0 ∧ P c.f1) → P ⟨a, b, s, l, m⟩) : ∀ x, P x := by
  intro x
  refine S25.rec (motive_1 := P) (motive_2 := fun l => ∀ y ∈ l, P y) (motive_3 := fun m => ∀ c ∈ m, P c.f0 ∧ P c.f1) (motive_4 := fun c => P c.f0 ∧ P c.f1) ?_ ?_ ?_ ?_ ?_ ?_ x
  · intro a b s l m hl hm
    exact h a b s l m hl hm
  · intro y hy; cases hy
  · intro x r hx hr y hy
    rcases List.mem_cons.1 hy with rfl | hy
    · exact hx
    · exact hr y hy
  · intro y hy; cases hy
  · intro x r hx hr y hy
    rcases List.mem_cons.1 hy with rfl | hy
    · exact hx
    · exact hr y hy
  · intro p q hp hq
    exact ⟨hp, hq⟩
mutual
def budE : S25 → Nat
  | ⟨_, _, s, l, m⟩ => s.size + (l.length + budEL l) + (m.length + budCL m)
def budEL : List S25 → Nat
  | [] => 0
  | x :: r => budE x + budEL r
def budCc : P54 S25 → Nat
  | ⟨p, x⟩ => budE p + budE x
def budCL : List (P54 S25) → Nat
  | [] => 0
  | x :: r => budCc x + budCL r
end
mutual
def cvE : S25 → S32
  | ⟨a, b, s, l, m⟩ => ⟨a, b, s, cvEL l, cvCL m⟩
def cvEL : List S25 → List S32
  | [] => []
  | x :: r => cvE x :: cvEL r
def cvC : P54 S25 → P42 S32
  | ⟨p, x⟩ => ⟨cvE p, cvE x⟩
def cvCL : List (P54 S25) → List (P42 S32)
  | [] => []
  | x :: r => cvC x :: cvCL r
end
theorem cvEL_map : ∀ l, cvEL l = l.map cvE
  | [] => rfl
  | x :: r => by rw [cvEL, List.map_cons, cvEL_map r]
theorem cvCL_map : ∀ l, cvCL l = l.map cvC
  | [] => rfl
  | x :: r => by rw [cvCL, List.map_cons, cvCL_map r]
theorem cvEL_len (l : List S25) : (cvEL l).length = l.length := by rw [cvEL_map, List.length_map]
theorem cvCL_len (l : List (P54 S25)) : (cvCL l).length = l.length := by rw [cvCL_map, List.length_map]
mutual
theorem budX_cv : ∀ x, budX (cvE x) = budE x
  | ⟨a, b, s, l, m⟩ => by rw [cvE, budX, budE, budXL_cv l, budXC_cv m, cvEL_len, cvCL_len]
theorem budXL_cv : ∀ l, budXL (cvEL l) = budEL l
  | [] => by rw [cvEL, budXL, budEL]
  | x :: r => by rw [cvEL, budXL, budEL, budX_cv x, budXL_cv r]
theorem budXc_cv : ∀ x, budXc (cvC x) = budCc x
  | ⟨p, x⟩ => by rw [cvC, budXc, budCc, budX_cv p, budX_cv x]
theorem budXC_cv : ∀ l, budXC (cvCL l) = budCL l
  | [] => by rw [cvCL, budXC, budCL]
  | x :: r => by rw [cvCL, budXC, budCL, budXc_cv x, budXC_cv r]
end
theorem sumE : ∀ l, sumB budE l = budEL l
  | [] => by rw [sumB, budEL]
  | x :: r => by rw [sumB, budEL, sumE r]
theorem sumC : ∀ l, sumB budCc l = budCL l
  | [] => by rw [sumB, budCL]
  | x :: r => by rw [sumB, budCL, sumC r]
theorem wfE_mk {a b : Int} {s : ByteArray} {l : List S25} {m : List (P54 S25)} (h : wf25 ⟨a, b, s, l, m⟩) : (s.size : Int) ≤ 9223372036854775807 ∧ (l.length : Int) ≤ 9223372036854775807 ∧ (∀ x ∈ l, wf25 x) ∧ (m.length : Int) ≤ 9223372036854775807 ∧ ∀ c : P54 S25, c ∈ m → wf25 c.f0 ∧ wf25 c.f1 := by
  unfold wf25 at h
  obtain ⟨h0, h1, h2, ⟨h3, h4⟩, h5, h6⟩ := h
  unfold maxLen at h2 h3 h5
  refine ⟨by omega, by omega, (wfl25_iff l).1 h4, by omega, fun c hc => ?_⟩
  have := (wfl54_iff m).1 h6 c hc
  obtain ⟨p, x⟩ := c
  unfold wf54 at this
  exact this
theorem szES_of (l : List S25) (hl : (l.length : Int) ≤ 9223372036854775807)
    (h : ∀ y ∈ l, ∀ left : Int, 0 ≤ left → left ≤ 1048576 → Ev (fun k => laws_szExpr.f k y.f0 y.f1 y.f2 y.f3 y.f4 left) (szRes left (budE y))) (left : Int) (h0 : 0 ≤ left) (h1 : left ≤ 1048576) :
    Ev (fun k => laws_szExprS.f k l left) (szRes left (l.length + budEL l)) := by
  by_cases hc : left - (l.length : Int) < 0
  · refine Ev.step (f := fun _ => some (-1)) (fun k => ?_) (ev_cast ?_ (Ev.now _))
    · simp only [laws_szExprS.f]; rw [w64 _ (by omega) (by omega), if_pos hc]
    · unfold szRes; rw [if_neg (by omega)]
  · refine Ev.step (f := fun k => laws_szExprS.l0 k l (left - l.length) 0) (fun k => ?_) (ev_cast ?_ (sz_loopG (fun k left i => laws_szExprS.l0 k l left i) budE l ?_ ?_ l.length 0 (left - l.length) (by omega) (by omega) (by omega)))
    · simp only [laws_szExprS.f]; rw [w64 _ (by omega) (by omega), if_neg hc]
    · rw [List.drop_zero, sumE]
      unfold szRes
      by_cases hb : (budEL l : Int) ≤ left - l.length
      · rw [if_pos hb, if_pos (by omega)]; omega
      · rw [if_neg hb, if_neg (by omega)]
    · intro i hi left r q0 q1 hr hn
      have e := h _ (List.getElem_mem hi) left q0 q1
      refine Ev.step (f := fun k => (laws_szExpr.f k l[i].f0 l[i].f1 l[i].f2 l[i].f3 l[i].f4 left).bind fun t102 => (if t102 < 0 then (some (-1)) else (laws_szExprS.l0 k l t102 (wrap64 ((i : Int) + 1))))) (fun k => ?_) (Ev.bind e ?_)
      · simp only [laws_szExprS.l0]; rw [if_pos (by omega), if_pos (by omega), rdLE l i hi]
      · rw [w64 _ (by omega) (by omega)]
        unfold szRes
        by_cases hb : (budE l[i] : Int) ≤ left
        · rw [if_pos hb]; exact ev_neg (by omega) (hr hb)
        · rw [if_neg hb]; exact ev_pos (by omega) (ev_cast (hn hb).symm (Ev.now _))
    · intro left
      refine Ev.step (f := fun _ => some left) (fun k => ?_) (Ev.now _)
      simp only [laws_szExprS.l0]; rw [if_neg (by omega)]
theorem szC_of (c : P54 S25) (e0 : ∀ left : Int, 0 ≤ left → left ≤ 1048576 → Ev (fun k => laws_szExpr.f k c.f0.f0 c.f0.f1 c.f0.f2 c.f0.f3 c.f0.f4 left) (szRes left (budE c.f0)))
    (e1 : ∀ left : Int, 0 ≤ left → left ≤ 1048576 → Ev (fun k => laws_szExpr.f k c.f1.f0 c.f1.f1 c.f1.f2 c.f1.f3 c.f1.f4 left) (szRes left (budE c.f1))) (left : Int) (h0 : 0 ≤ left) (h1 : left ≤ 1048576) :
    Ev (fun k => laws_szClause.f k c.f0.f0 c.f0.f1 c.f0.f2 c.f0.f3 c.f0.f4 c.f1.f0 c.f1.f1 c.f1.f2 c.f1.f3 c.f1.f4 left) (szRes left (budCc c)) := by
  have hbc : budCc c = budE c.f0 + budE c.f1 := by cases c; rw [budCc]
  refine Ev.step (f := fun k => (laws_szExpr.f k c.f0.f0 c.f0.f1 c.f0.f2 c.f0.f3 c.f0.f4 left).bind fun t104 => (if t104 < 0 then (some (-1)) else ((laws_szExpr.f k c.f1.f0 c.f1.f1 c.f1.f2 c.f1.f3 c.f1.f4 t104).bind fun t105 => (if t105 < 0 then (some (-1)) else (some t105))))) (fun k => rfl) (Ev.bind (e0 left h0 h1) ?_)
  unfold szRes
  by_cases hb : (budE c.f0 : Int) ≤ left
  · rw [if_pos hb]
    refine ev_neg (by omega) (Ev.bind (e1 (left - budE c.f0) (by omega) (by omega)) ?_)
    unfold szRes
    by_cases hb2 : (budE c.f1 : Int) ≤ left - budE c.f0
    · rw [if_pos hb2]
      refine ev_neg (by omega) (ev_cast ?_ (Ev.now _))
      rw [if_pos (by omega)]; omega
    · rw [if_neg hb2]
      refine ev_pos (by omega) (ev_cast ?_ (Ev.now _))
      rw [if_neg (by omega)]
  · rw [if_neg hb]
    refine ev_pos (by omega) (ev_cast ?_ (Ev.now _))
    rw [if_neg (by omega)]
theorem szCS_of (l : List (P54 S25)) (hl : (l.length : Int) ≤ 9223372036854775807)
    (h : ∀ c ∈ l, ∀ left : Int, 0 ≤ left → left ≤ 1048576 → Ev (fun k => laws_szClause.f k c.f0.f0 c.f0.f1 c.f0.f2 c.f0.f3 c.f0.f4 c.f1.f0 c.f1.f1 c.f1.f2 c.f1.f3 c.f1.f4 left) (szRes left (budCc c))) (left : Int) (h0 : 0 ≤ left) (h1 : left ≤ 1048576) :
    Ev (fun k => laws_szClauseS.f k l left) (szRes left (l.length + budCL l)) := by
  by_cases hc : left - (l.length : Int) < 0
  · refine Ev.step (f := fun _ => some (-1)) (fun k => ?_) (ev_cast ?_ (Ev.now _))
    · simp only [laws_szClauseS.f]; rw [w64 _ (by omega) (by omega), if_pos hc]
    · unfold szRes; rw [if_neg (by omega)]
  · refine Ev.step (f := fun k => laws_szClauseS.l0 k l (left - l.length) 0) (fun k => ?_) (ev_cast ?_ (sz_loopG (fun k left i => laws_szClauseS.l0 k l left i) budCc l ?_ ?_ l.length 0 (left - l.length) (by omega) (by omega) (by omega)))
    · simp only [laws_szClauseS.f]; rw [w64 _ (by omega) (by omega), if_neg hc]
    · rw [List.drop_zero, sumC]
      unfold szRes
      by_cases hb : (budCL l : Int) ≤ left - l.length
      · rw [if_pos hb, if_pos (by omega)]; omega
      · rw [if_neg hb, if_neg (by omega)]
    · intro i hi left r q0 q1 hr hn
      have e := h _ (List.getElem_mem hi) left q0 q1
      have hrd := rdLC l i hi
      generalize l[i] = c at *
      refine Ev.step (f := fun k => (laws_szClause.f k c.f0.f0 c.f0.f1 c.f0.f2 c.f0.f3 c.f0.f4 c.f1.f0 c.f1.f1 c.f1.f2 c.f1.f3 c.f1.f4 left).bind fun t102 => (if t102 < 0 then (some (-1)) else (laws_szClauseS.l0 k l t102 (wrap64 ((i : Int) + 1))))) (fun k => ?_) (Ev.bind e ?_)
      · simp only [laws_szClauseS.l0]; rw [if_pos (by omega), if_pos (by omega), hrd]
      · rw [w64 _ (by omega) (by omega)]
        unfold szRes
        by_cases hb : (budCc c : Int) ≤ left
        · rw [if_pos hb]; exact ev_neg (by omega) (hr hb)
        · rw [if_neg hb]; exact ev_pos (by omega) (ev_cast (hn hb).symm (Ev.now _))
    · intro left
      refine Ev.step (f := fun _ => some left) (fun k => ?_) (Ev.now _)
      simp only [laws_szClauseS.l0]; rw [if_neg (by omega)]
theorem szE_all : ∀ x, wf25 x → ∀ left : Int, 0 ≤ left → left ≤ 1048576 → Ev (fun k => laws_szExpr.f k x.f0 x.f1 x.f2 x.f3 x.f4 left) (szRes left (budE x)) := by
  refine indLE ?_
  intro a b s l m ih ihc hw left h0 h1
  obtain ⟨hs, hl, hm, hl2, hm2⟩ := wfE_mk hw
  simp only []
  rw [budE]
  by_cases hc : left - (s.size : Int) < 0
  · refine Ev.step (f := fun _ => some (-1)) (fun k => ?_) (ev_cast ?_ (Ev.now _))
    · simp only [laws_szExpr.f]; rw [w64 _ (by omega) (by omega), if_pos hc]
    · unfold szRes; rw [if_neg (by omega)]
  · refine Ev.step (f := fun k => (laws_szExprS.f k l (left - (s.size : Int))).bind fun t109 => (if t109 < 0 then (some (-1)) else ((laws_szClauseS.f k m t109).bind fun t110 => (if t110 < 0 then (some (-1)) else (some t110))))) (fun k => ?_) (Ev.bind (szES_of l hl (fun y hy => ih y hy (hm y hy)) (left - s.size) (by omega) (by omega)) ?_)
    · simp only [laws_szExpr.f]; rw [w64 _ (by omega) (by omega), if_neg hc]
    · unfold szRes
      by_cases hb : ((l.length + budEL l : Nat) : Int) ≤ left - s.size
      · rw [if_pos hb]
        refine ev_neg (by omega) (Ev.bind (szCS_of m hl2 (fun c hc2 => szC_of c ((ihc c hc2).1 (hm2 c hc2).1) ((ihc c hc2).2 (hm2 c hc2).2)) (left - s.size - ((l.length + budEL l : Nat) : Int)) (by omega) (by omega)) ?_)
        unfold szRes
        by_cases hb2 : ((m.length + budCL m : Nat) : Int) ≤ left - s.size - ((l.length + budEL l : Nat) : Int)
        · rw [if_pos hb2]
          refine ev_neg (by omega) (ev_cast ?_ (Ev.now _))
          rw [if_pos (by omega)]; omega
        · rw [if_neg hb2]
          refine ev_pos (by omega) (ev_cast ?_ (Ev.now _))
          rw [if_neg (by omega)]
      · rw [if_neg hb]
        refine ev_pos (by omega) (ev_cast ?_ (Ev.now _))
        rw [if_neg (by omega)]
theorem toES_of (l : List S25) (hl : (l.length : Int) ≤ 1048576)
    (h : ∀ y ∈ l, Ev (fun k => laws_toExpr.f k y.f0 y.f1 y.f2 y.f3 y.f4) (y.f0, y.f1, y.f2, cvEL y.f3, cvCL y.f4)) : Ev (fun k => laws_toExprS.f k l) (cvEL l) := by
  rw [cvEL_map]
  refine Ev.step (f := fun k => laws_toExprS.l0 k l (List.replicate l.length z32) 0) (fun k => ?_) (map_loop0 (fun k x i => laws_toExprS.l0 k l x i) cvE l _ ?_ ?_)
  · simp only [laws_toExprS.f]; rw [if_pos (by omega), if_pos (by omega), Int.toNat_natCast]
  · intro i hi x r hx e
    have e0 := h _ (List.getElem_mem hi)
    have hrd := rdLE l i hi
    generalize l[i] = y at *
    refine Ev.step (f := fun k => (laws_toExpr.f k y.f0 y.f1 y.f2 y.f3 y.f4).bind fun bt126 => (if (i : Int) < (x.length : Int) then (laws_toExprS.l0 k l (x.set ((i : Int)).toNat (⟨bt126.1, bt126.2.1, bt126.2.2.1, bt126.2.2.2.1, bt126.2.2.2.2⟩ : S32)) (wrap64 ((i : Int) + 1))) else none)) (fun k => ?_) (Ev.bind e0 (ev_pos (by omega) ?_))
    · simp only [laws_toExprS.l0]; rw [if_pos (by omega), if_pos (by omega), hrd]
    · rw [w64 _ (by omega) (by omega), Int.toNat_natCast]
      have ec : (⟨y.f0, y.f1, y.f2, cvEL y.f3, cvCL y.f4⟩ : S32) = cvE y := by cases y; rw [cvE]
      simp only [ec]
      exact e
  · intro x hx
    refine Ev.step (f := fun _ => some x) (fun k => ?_) (Ev.now _)
    simp only [laws_toExprS.l0]; rw [if_neg (by omega)]
theorem toCS_of (l : List (P54 S25)) (hl : (l.length : Int) ≤ 1048576)
    (h : ∀ c ∈ l, Ev (fun k => laws_toExpr.f k c.f0.f0 c.f0.f1 c.f0.f2 c.f0.f3 c.f0.f4) (c.f0.f0, c.f0.f1, c.f0.f2, cvEL c.f0.f3, cvCL c.f0.f4) ∧ Ev (fun k => laws_toExpr.f k c.f1.f0 c.f1.f1 c.f1.f2 c.f1.f3 c.f1.f4) (c.f1.f0, c.f1.f1, c.f1.f2, cvEL c.f1.f3, cvCL c.f1.f4)) : Ev (fun k => laws_toClauseS.f k l) (cvCL l) := by
  rw [cvCL_map]
  refine Ev.step (f := fun k => laws_toClauseS.l0 k l (List.replicate l.length z42) 0) (fun k => ?_) (map_loop0 (fun k x i => laws_toClauseS.l0 k l x i) cvC l _ ?_ ?_)
  · simp only [laws_toClauseS.f]; rw [if_pos (by omega), if_pos (by omega), Int.toNat_natCast]
  · intro i hi x r hx e
    have e0 := h _ (List.getElem_mem hi)
    have hrd := rdLC l i hi
    generalize l[i] = c at *
    have e1 : Ev (fun k => laws_toClause.f k c.f0.f0 c.f0.f1 c.f0.f2 c.f0.f3 c.f0.f4 c.f1.f0 c.f1.f1 c.f1.f2 c.f1.f3 c.f1.f4) (c.f0.f0, c.f0.f1, c.f0.f2, cvEL c.f0.f3, cvCL c.f0.f4, c.f1.f0, c.f1.f1, c.f1.f2, cvEL c.f1.f3, cvCL c.f1.f4) :=
      Ev.step (fun k => by simp only [laws_toClause.f]; rfl) (Ev.bind e0.1 (Ev.bind e0.2 (ev_of (o := some (c.f0.f0, c.f0.f1, c.f0.f2, cvEL c.f0.f3, cvCL c.f0.f4, c.f1.f0, c.f1.f1, c.f1.f2, cvEL c.f1.f3, cvCL c.f1.f4)) rfl)))
    refine Ev.step (f := fun k => (laws_toClause.f k c.f0.f0 c.f0.f1 c.f0.f2 c.f0.f3 c.f0.f4 c.f1.f0 c.f1.f1 c.f1.f2 c.f1.f3 c.f1.f4).bind fun bt161 => (if (i : Int) < (x.length : Int) then (laws_toClauseS.l0 k l (x.set ((i : Int)).toNat (⟨(⟨bt161.1, bt161.2.1, bt161.2.2.1, bt161.2.2.2.1, bt161.2.2.2.2.1⟩ : S32), (⟨bt161.2.2.2.2.2.1, bt161.2.2.2.2.2.2.1, bt161.2.2.2.2.2.2.2.1, bt161.2.2.2.2.2.2.2.2.1, bt161.2.2.2.2.2.2.2.2.2⟩ : S32)⟩ : S42)) (wrap64 ((i : Int) + 1))) else none)) (fun k => ?_) (Ev.bind e1 (ev_pos (by omega) ?_))
    · simp only [laws_toClauseS.l0]; rw [if_pos (by omega), if_pos (by omega), hrd]
    · rw [w64 _ (by omega) (by omega), Int.toNat_natCast]
      obtain ⟨p, q⟩ := c
      have ec : (⟨(⟨p.f0, p.f1, p.f2, cvEL p.f3, cvCL p.f4⟩ : S32), (⟨q.f0, q.f1, q.f2, cvEL q.f3, cvCL q.f4⟩ : S32)⟩ : S42) = cvC ⟨p, q⟩ := by cases p; cases q; rw [cvC, cvE, cvE]
      simp only [ec]
      exact e
  · intro x hx
    refine Ev.step (f := fun _ => some x) (fun k => ?_) (Ev.now _)
    simp only [laws_toClauseS.l0]; rw [if_neg (by omega)]
theorem budEL_mem (l : List S25) (x : S25) (h : x ∈ l) : budE x ≤ budEL l := by have := sumB_mem budE l x h; rwa [sumE] at this
theorem budCL_mem (l : List (P54 S25)) (c : P54 S25) (h : c ∈ l) : budE c.f0 + budE c.f1 ≤ budCL l := by
  have := sumB_mem budCc l c h
  rw [sumC] at this
  have hbc : budCc c = budE c.f0 + budE c.f1 := by cases c; rw [budCc]
  omega
theorem toE_all : ∀ x, (budE x : Int) ≤ 1048576 → Ev (fun k => laws_toExpr.f k x.f0 x.f1 x.f2 x.f3 x.f4) (x.f0, x.f1, x.f2, cvEL x.f3, cvCL x.f4) := by
  refine indLE ?_
  intro a b s l m ih ihc hb
  rw [budE] at hb
  refine Ev.step (f := fun k => (laws_toExprS.f k l).bind fun t183 => ((laws_toClauseS.f k m).bind fun t186 => (some (a, b, s, t183, t186)))) (fun k => ?_) (Ev.bind (toES_of l (by omega) (fun y hy => ih y hy (by have := budEL_mem l y hy; omega))) (Ev.bind (toCS_of m (by omega) (fun c hc => ⟨(ihc c hc).1 (by have := budCL_mem m c hc; omega), (ihc c hc).2 (by have := budCL_mem m c hc; omega)⟩)) (Ev.now _)))
  simp only [laws_toExpr.f]
theorem eqES_of (l : List S32) (hl : (l.length : Int) ≤ 4194304) (h : ∀ y ∈ l, Ev (fun k => laws_eqExpr.f k y.f0 y.f1 y.f2 y.f3 y.f4 y.f0 y.f1 y.f2 y.f3 y.f4) true) : Ev (fun k => laws_eqExprS.f k l l) true := by
  refine Ev.step (f := fun k => laws_eqExprS.l0 k l l 0) (fun k => ?_) (ev_cast ?_ (all_loop (fun k i => laws_eqExprS.l0 k l l i) (fun _ => true) l.length ?_ ?_ l.length 0 (by omega)))
  · simp only [laws_eqExprS.f]; rw [if_pos trivial]
  · unfold allFrom; simp
  · intro i hi r hr _
    have e := h _ (List.getElem_mem hi)
    have hrd := rdE l i hi
    generalize l[i] = y at *
    refine Ev.step (f := fun k => (laws_eqExpr.f k y.f0 y.f1 y.f2 y.f3 y.f4 y.f0 y.f1 y.f2 y.f3 y.f4).bind fun t209 => (if t209 = true then (laws_eqExprS.l0 k l l (wrap64 ((i : Int) + 1))) else (some false))) (fun k => ?_) (Ev.bind e (ev_pos rfl ?_))
    · simp only [laws_eqExprS.l0]; rw [if_pos (by omega), if_pos (by omega), if_pos (by omega), hrd]
    · rw [w64 _ (by omega) (by omega)]; exact hr rfl
  · refine Ev.step (f := fun _ => some true) (fun k => ?_) (Ev.now _)
    simp only [laws_eqExprS.l0]; rw [if_neg (by omega)]
theorem eqCS_of (l : List (P42 S32)) (hl : (l.length : Int) ≤ 4194304) (h : ∀ c ∈ l, Ev (fun k => laws_eqExpr.f k c.f0.f0 c.f0.f1 c.f0.f2 c.f0.f3 c.f0.f4 c.f0.f0 c.f0.f1 c.f0.f2 c.f0.f3 c.f0.f4) true ∧ Ev (fun k => laws_eqExpr.f k c.f1.f0 c.f1.f1 c.f1.f2 c.f1.f3 c.f1.f4 c.f1.f0 c.f1.f1 c.f1.f2 c.f1.f3 c.f1.f4) true) : Ev (fun k => laws_eqClauseS.f k l l) true := by
  refine Ev.step (f := fun k => laws_eqClauseS.l0 k l l 0) (fun k => ?_) (ev_cast ?_ (all_loop (fun k i => laws_eqClauseS.l0 k l l i) (fun _ => true) l.length ?_ ?_ l.length 0 (by omega)))
  · simp only [laws_eqClauseS.f]; rw [if_pos trivial]
  · unfold allFrom; simp
  · intro i hi r hr _
    have e := h _ (List.getElem_mem hi)
    have hrd := rdC l i hi
    generalize l[i] = c at *
    have e1 : Ev (fun k => laws_eqClause.f k c.f0.f0 c.f0.f1 c.f0.f2 c.f0.f3 c.f0.f4 c.f1.f0 c.f1.f1 c.f1.f2 c.f1.f3 c.f1.f4 c.f0.f0 c.f0.f1 c.f0.f2 c.f0.f3 c.f0.f4 c.f1.f0 c.f1.f1 c.f1.f2 c.f1.f3 c.f1.f4) true :=
      Ev.step (fun k => by simp only [laws_eqClause.f]; rfl) (Ev.bind e.1 (ev_pos rfl (Ev.bind e.2 (ev_pos rfl (Ev.now _)))))
    refine Ev.step (f := fun k => (laws_eqClause.f k c.f0.f0 c.f0.f1 c.f0.f2 c.f0.f3 c.f0.f4 c.f1.f0 c.f1.f1 c.f1.f2 c.f1.f3 c.f1.f4 c.f0.f0 c.f0.f1 c.f0.f2 c.f0.f3 c.f0.f4 c.f1.f0 c.f1.f1 c.f1.f2 c.f1.f3 c.f1.f4).bind fun t209 => (if t209 = true then (laws_eqClauseS.l0 k l l (wrap64 ((i : Int) + 1))) else (some false))) (fun k => ?_) (Ev.bind e1 (ev_pos rfl ?_))
    · simp only [laws_eqClauseS.l0]; rw [if_pos (by omega), if_pos (by omega), if_pos (by omega), hrd]
    · rw [w64 _ (by omega) (by omega)]; exact hr rfl
  · refine Ev.step (f := fun _ => some true) (fun k => ?_) (Ev.now _)
    simp only [laws_eqClauseS.l0]; rw [if_neg (by omega)]
theorem eqE_all : ∀ x, (budX x : Int) ≤ 4194304 → Ev (fun k => laws_eqExpr.f k x.f0 x.f1 x.f2 x.f3 x.f4 x.f0 x.f1 x.f2 x.f3 x.f4) true := by
  refine indE ?_
  intro a b s l m ih ihc hb
  rw [budX] at hb
  refine Ev.step (f := fun k => (laws_eqExprS.f k l l).bind fun t219 => (if t219 = true then ((laws_eqClauseS.f k m m).bind fun t220 => (if t220 = true then (some true) else (some false))) else (some false))) (fun k => ?_) (Ev.bind (eqES_of l (by omega) (fun y hy => ih y hy (by have := budXL_mem l y hy; omega))) (ev_pos rfl (Ev.bind (eqCS_of m (by omega) (fun c hc => ⟨(ihc c hc).1 (by have := budXC_mem m c hc; omega), (ihc c hc).2 (by have := budXC_mem m c hc; omega)⟩)) (ev_pos rfl (Ev.now _)))))
  simp only [laws_eqExpr.f]
  simp
theorem budXL_drop (l : List S32) (i : Nat) (h : i < l.length) : budXL (l.drop i) = budX l[i] + budXL (l.drop (i + 1)) := by
  rw [List.drop_eq_getElem_cons h, budXL]
mutual
def callsM : S32 → List ByteArray
  | ⟨a, _, s, l, m⟩ => (if a = 8 then [s] else []) ++ (callsEL l ++ callsCL m)
def callsEL : List S32 → List ByteArray
  | [] => []
  | x :: r => callsM x ++ callsEL r
def callsc : P42 S32 → List ByteArray
  | ⟨_, x⟩ => callsM x
def callsCL : List (P42 S32) → List ByteArray
  | [] => []
  | c :: r => callsc c ++ callsCL r
end
theorem callsc_eq (c : P42 S32) : callsc c = callsM c.f1 := by obtain ⟨p, x⟩ := c; rw [callsc]
theorem budXc_eq (c : P42 S32) : budXc c = budX c.f0 + budX c.f1 := by obtain ⟨p, x⟩ := c; rw [budXc]
theorem callsE_drop (l : List S32) (i : Nat) (h : i < l.length) : callsEL (l.drop i) = callsM l[i] ++ callsEL (l.drop (i + 1)) := by
  rw [List.drop_eq_getElem_cons h, callsEL]
theorem callsC_drop (l : List (P42 S32)) (i : Nat) (h : i < l.length) : callsCL (l.drop i) = callsM l[i].f1 ++ callsCL (l.drop (i + 1)) := by
  rw [List.drop_eq_getElem_cons h, callsCL, callsc_eq]
theorem budXC_drop (l : List (P42 S32)) (i : Nat) (h : i < l.length) : budXC (l.drop i) = (budX l[i].f0 + budX l[i].f1) + budXC (l.drop (i + 1)) := by
  rw [List.drop_eq_getElem_cons h, budXC, budXc_eq]
theorem callsEL_len : ∀ l : List S32, (∀ y ∈ l, (callsM y).length ≤ 1 + budX y) → (callsEL l).length ≤ l.length + budXL l
  | [], _ => by rw [callsEL]; simp
  | x :: r, h => by
    have q1 := h x List.mem_cons_self
    have q2 := callsEL_len r (fun y hy => h y (List.mem_cons_of_mem _ hy))
    rw [callsEL, budXL, List.length_append, List.length_cons]
    omega
theorem callsCL_len : ∀ l : List (P42 S32), (∀ c ∈ l, (callsM c.f1).length ≤ 1 + budX c.f1) → (callsCL l).length ≤ l.length + budXC l
  | [], _ => by rw [callsCL]; simp
  | x :: r, h => by
    have q1 := h x List.mem_cons_self
    have q2 := callsCL_len r (fun y hy => h y (List.mem_cons_of_mem _ hy))
    rw [callsCL, callsc_eq, budXC, budXc_eq, List.length_append, List.length_cons]
    omega
theorem calls_len : ∀ x, (callsM x).length ≤ 1 + budX x := by
  refine indE ?_
  intro a b s l m ih ihm
  have h1 := callsEL_len l ih
  have h2 := callsCL_len m (fun c hc => (ihm c hc).2)
  rw [callsM, budX, List.length_append, List.length_append]
  split
  · simp only [List.length_cons, List.length_nil]; omega
  · simp only [List.length_nil]; omega
theorem sCalls_l1 (a b : Int) (s : ByteArray) (l : List S32) (m : List (P42 S32)) (hm : (m.length : Int) ≤ 4194304) (h : ∀ c : P42 S32, c ∈ m → Ev (fun k => spec_CallsOf.f k c.f1.f0 c.f1.f1 c.f1.f2 c.f1.f3 c.f1.f4) (callsM c.f1)) (d : Nat) :
    ∀ (i : Nat) (acc : List ByteArray), i + d = m.length → acc.length + (d + budXC (m.drop i)) ≤ 5000000 → Ev (fun k => spec_CallsOf.l1 k acc i a b s l m) (acc ++ callsCL (m.drop i)) := by
  induction d with
  | zero =>
    intro i acc hi hb
    refine Ev.step (f := fun _ => some acc) (fun k => ?_) (ev_cast ?_ (Ev.now _))
    · simp only [spec_CallsOf.l1]; rw [if_neg (by omega)]
    · rw [List.drop_eq_nil_of_le (by omega), callsCL, List.append_nil]
  | succ d ih =>
    intro i acc hi hb
    have hlt : i < m.length := by omega
    have hc := budXC_drop m i hlt
    have hv := calls_len m[i].f1
    refine Ev.step (f := fun k => (spec_CallsOf.f k m[i].f1.f0 m[i].f1.f1 m[i].f1.f2 m[i].f1.f3 m[i].f1.f4).bind fun t200 => (if acc.length + t200.length < 8796093022208 then (spec_CallsOf.l1 k (acc ++ t200) (wrap64 ((i : Int) + 1)) a b s l m) else (none))) (fun k => ?_) (Ev.bind (h m[i] (List.getElem_mem hlt)) (ev_pos (by omega) ?_))
    · simp only [spec_CallsOf.l1]
      rw [if_pos (by omega), if_pos (by omega), rdC m i hlt]
    · rw [w64 _ (by omega) (by omega), callsC_drop m i hlt, ← List.append_assoc]
      exact ih (i + 1) _ (by omega) (by rw [List.length_append]; omega)
theorem sCalls_l0 (a b : Int) (s : ByteArray) (l : List S32) (m : List (P42 S32)) (hl : (l.length : Int) ≤ 4194304) (hm : (m.length : Int) ≤ 4194304) (h : ∀ y ∈ l, Ev (fun k => spec_CallsOf.f k y.f0 y.f1 y.f2 y.f3 y.f4) (callsM y)) (h2 : ∀ c : P42 S32, c ∈ m → Ev (fun k => spec_CallsOf.f k c.f1.f0 c.f1.f1 c.f1.f2 c.f1.f3 c.f1.f4) (callsM c.f1)) (d : Nat) :
    ∀ (i : Nat) (acc : List ByteArray), i + d = l.length → acc.length + (d + budXL (l.drop i)) + (m.length + budXC m) ≤ 5000000 → Ev (fun k => spec_CallsOf.l0 k acc i a b s l m) (acc ++ (callsEL (l.drop i) ++ callsCL m)) := by
  induction d with
  | zero =>
    intro i acc hi hb
    rw [List.drop_eq_nil_of_le (by omega), callsEL, List.nil_append]
    have e := sCalls_l1 a b s l m hm h2 m.length 0 acc (by omega) (by rw [List.drop_zero]; omega)
    rw [List.drop_zero] at e
    refine Ev.step (fun k => ?_) e
    simp only [spec_CallsOf.l0]; rw [if_neg (by omega)]; rfl
  | succ d ih =>
    intro i acc hi hb
    have hlt : i < l.length := by omega
    have hc := budXL_drop l i hlt
    have hv := calls_len l[i]
    refine Ev.step (f := fun k => (spec_CallsOf.f k l[i].f0 l[i].f1 l[i].f2 l[i].f3 l[i].f4).bind fun t200 => (if acc.length + t200.length < 8796093022208 then (spec_CallsOf.l0 k (acc ++ t200) (wrap64 ((i : Int) + 1)) a b s l m) else (none))) (fun k => ?_) (Ev.bind (h l[i] (List.getElem_mem hlt)) (ev_pos (by omega) ?_))
    · simp only [spec_CallsOf.l0]
      rw [if_pos (by omega), if_pos (by omega), rdE l i hlt]
    · rw [w64 _ (by omega) (by omega), callsE_drop l i hlt, List.append_assoc, ← List.append_assoc]
      exact ih (i + 1) _ (by omega) (by rw [List.length_append]; omega)
theorem spec_Calls_all : ∀ x, (budX x : Int) ≤ 4194304 → Ev (fun k => spec_CallsOf.f k x.f0 x.f1 x.f2 x.f3 x.f4) (callsM x) := by
  refine indE ?_
  intro a b s l m ih ihm hb
  rw [budX] at hb
  rw [callsM]
  have go : ∀ acc : List ByteArray, acc.length ≤ 1 → Ev (fun k => spec_CallsOf.j0 k acc a b s l m) (acc ++ (callsEL l ++ callsCL m)) := fun acc ha => by
    have e := sCalls_l0 a b s l m (by omega) (by omega) (fun y hy => ih y hy (by have := budXL_mem l y hy; omega)) (fun c hc => (ihm c hc).2 (by have := budXC_mem m c hc; omega)) l.length 0 acc (by omega) (by rw [List.drop_zero]; omega)
    rw [List.drop_zero] at e
    exact Ev.step (fun k => by simp only [spec_CallsOf.j0]; rfl) e
  refine Ev.step (f := fun k => (some (([] : List ByteArray) : List ByteArray)).bind fun y112 => (if a = 8 then (if y112.length < 8796093022208 then (spec_CallsOf.j0 k (y112 ++ [s]) a b s l m) else (none)) else (spec_CallsOf.j0 k y112 a b s l m))) (fun k => ?_) (Ev.bind (Ev.now _) ?_)
  · simp only [spec_CallsOf.f]
  by_cases h8 : a = 8
  · rw [if_pos h8]
    refine ev_pos h8 (ev_pos (by simp) ?_)
    exact go [s] (by simp)
  · rw [if_neg h8]
    refine ev_neg h8 ?_
    exact go [] (by simp)
def EachP (x : S32) : Prop := ∀ acc : List ByteArray, acc.length + (1 + budX x) ≤ 5000000 → Ev (fun k => impl_eachCall_of_impl_CallsOf_1.f k x.f0 x.f1 x.f2 x.f3 x.f4 acc) (acc ++ callsM x)
theorem iCalls_l1 (m : List (P42 S32)) (hm : (m.length : Int) ≤ 4194304) (h : ∀ c : P42 S32, c ∈ m → EachP c.f1) (d : Nat) :
    ∀ (i : Nat) (acc : List ByteArray), i + d = m.length → acc.length + (d + budXC (m.drop i)) ≤ 5000000 → Ev (fun k => impl_eachCall_of_impl_CallsOf_1.l1 k m (m.length : Int) i acc) (acc ++ callsCL (m.drop i)) := by
  induction d with
  | zero =>
    intro i acc hi hb
    refine Ev.step (f := fun _ => some acc) (fun k => ?_) (ev_cast ?_ (Ev.now _))
    · simp only [impl_eachCall_of_impl_CallsOf_1.l1]; rw [if_neg (by omega)]
    · rw [List.drop_eq_nil_of_le (by omega), callsCL, List.append_nil]
  | succ d ih =>
    intro i acc hi hb
    have hlt : i < m.length := by omega
    have hc := budXC_drop m i hlt
    have hv := calls_len m[i].f1
    refine Ev.step (f := fun k => (impl_eachCall_of_impl_CallsOf_1.f k m[i].f1.f0 m[i].f1.f1 m[i].f1.f2 m[i].f1.f3 m[i].f1.f4 acc).bind fun t214 => (impl_eachCall_of_impl_CallsOf_1.l1 k m (m.length : Int) (wrap64 ((i : Int) + 1)) t214)) (fun k => ?_) (Ev.bind (h m[i] (List.getElem_mem hlt) acc (by omega)) ?_)
    · simp only [impl_eachCall_of_impl_CallsOf_1.l1]
      rw [if_pos (by omega), if_pos (by omega), if_pos (by omega), rdC m i hlt]
    · rw [w64 _ (by omega) (by omega), callsC_drop m i hlt, ← List.append_assoc]
      exact ih (i + 1) _ (by omega) (by rw [List.length_append]; omega)
theorem iCalls_l0 (a b : Int) (s : ByteArray) (l : List S32) (m : List (P42 S32)) (hl : (l.length : Int) ≤ 4194304) (hm : (m.length : Int) ≤ 4194304) (h : ∀ y ∈ l, EachP y) (h2 : ∀ c : P42 S32, c ∈ m → EachP c.f1) (d : Nat) :
    ∀ (i : Nat) (acc : List ByteArray), i + d = l.length → acc.length + (d + budXL (l.drop i)) + (m.length + budXC m) ≤ 5000000 → Ev (fun k => impl_eachCall_of_impl_CallsOf_1.l0 k l (l.length : Int) i acc a b s l m) (acc ++ (callsEL (l.drop i) ++ callsCL m)) := by
  induction d with
  | zero =>
    intro i acc hi hb
    rw [List.drop_eq_nil_of_le (by omega), callsEL, List.nil_append]
    have e := iCalls_l1 m hm h2 m.length 0 acc (by omega) (by rw [List.drop_zero]; omega)
    rw [List.drop_zero] at e
    refine Ev.step (fun k => ?_) e
    simp only [impl_eachCall_of_impl_CallsOf_1.l0]; rw [if_neg (by omega)]; rfl
  | succ d ih =>
    intro i acc hi hb
    have hlt : i < l.length := by omega
    have hc := budXL_drop l i hlt
    have hv := calls_len l[i]
    refine Ev.step (f := fun k => (impl_eachCall_of_impl_CallsOf_1.f k l[i].f0 l[i].f1 l[i].f2 l[i].f3 l[i].f4 acc).bind fun t209 => (impl_eachCall_of_impl_CallsOf_1.l0 k l (l.length : Int) (wrap64 ((i : Int) + 1)) t209 a b s l m)) (fun k => ?_) (Ev.bind (h l[i] (List.getElem_mem hlt) acc (by omega)) ?_)
    · simp only [impl_eachCall_of_impl_CallsOf_1.l0]
      rw [if_pos (by omega), if_pos (by omega), if_pos (by omega), rdE l i hlt]
    · rw [w64 _ (by omega) (by omega), callsE_drop l i hlt, List.append_assoc, ← List.append_assoc]
      exact ih (i + 1) _ (by omega) (by rw [List.length_append]; omega)
theorem each_all : ∀ x, (budX x : Int) ≤ 4194304 → EachP x := by
  refine indE ?_
  intro a b s l m ih ihm hb acc ha
  rw [budX] at hb ha
  rw [callsM]
  have go : ∀ acc2 : List ByteArray, acc2.length ≤ acc.length + 1 → Ev (fun k => impl_eachCall_of_impl_CallsOf_1.j0 k acc2 a b s l m) (acc2 ++ (callsEL l ++ callsCL m)) := fun acc2 h2 => by
    have e := iCalls_l0 a b s l m (by omega) (by omega) (fun y hy => ih y hy (by have := budXL_mem l y hy; omega)) (fun c hc => (ihm c hc).2 (by have := budXC_mem m c hc; omega)) l.length 0 acc2 (by omega) (by rw [List.drop_zero]; omega)
    rw [List.drop_zero] at e
    exact Ev.step (fun k => by simp only [impl_eachCall_of_impl_CallsOf_1.j0]; rfl) e
  refine Ev.step (f := fun k => (if a = 8 then ((impl_CallsOf_1.f a b s l m acc).bind fun t204 => (impl_eachCall_of_impl_CallsOf_1.j0 k t204 a b s l m)) else (impl_eachCall_of_impl_CallsOf_1.j0 k acc a b s l m))) (fun k => ?_) ?_
  · simp only [impl_eachCall_of_impl_CallsOf_1.f]
  by_cases h8 : a = 8
  · rw [if_pos h8, ← List.append_assoc]
    refine ev_pos h8 (Ev.bind (a := acc ++ [s]) (ev_of ?_) (go _ (by rw [List.length_append]; simp)))
    unfold impl_CallsOf_1.f
    exact if_pos (by omega)
  · rw [if_neg h8, List.nil_append]
    refine ev_neg h8 ?_
    exact go acc (by omega)
theorem impl_Calls_all (x : S32) (hb : (budX x : Int) ≤ 4194304) : Ev (fun k => impl_CallsOf.f k x.f0 x.f1 x.f2 x.f3 x.f4) (callsM x) := by
  unfold impl_CallsOf.f
  have e := each_all x hb [] (by simp; omega)
  rw [List.nil_append] at e
  exact Ev.bind e (Ev.now _)
theorem str_one (x : Int) : (strOfNums [x]).size = 1 := by unfold strOfNums; rfl
theorem laws_markText_l0 (m : Nat) : ∀ (n : Nat) (x3 : ByteArray), n ≤ m → n ≤ 4000000000 → x3.size + n ≤ 5000000000 → ∃ r, Ev (fun k => laws_markText.l0 k (n : Int) x3) r := by
  have z : ∀ x3 : ByteArray, x3.size ≤ 5000000000 → ∃ r, Ev (fun k => laws_markText.l0 k ((0 : Nat) : Int) x3) r := fun x3 hs =>
    ⟨_, Ev.step (f := fun _ => (if 1 + x3.size ≤ 9223372036854775807 then (some ((⟨#[109]⟩ : ByteArray) ++ x3)) else none)) (fun k => by simp only [laws_markText.l0]; rw [if_neg (by omega)]) (ev_pos (by omega) (Ev.now _))⟩
  induction m with
  | zero =>
    intro n x3 hm h1 h2
    obtain rfl : n = 0 := by omega
    exact z x3 (by omega)
  | succ m ih =>
    intro n x3 hm h1 h2
    by_cases h0 : n = 0
    · subst h0; exact z x3 (by omega)
    · have ht : wrap64 (Int.tdiv (n : Int) 10) = ((n / 10 : Nat) : Int) := by
        rw [Int.tdiv_eq_ediv_of_nonneg (by omega), w64 _ (by omega) (by omega)]; omega
      obtain ⟨r, e⟩ := ih (n / 10) (strOfNums [(wrap64 (48 + (Int.tmod (n : Int) 10))) % 256] ++ x3) (by omega) (by omega) (by rw [ByteArray.size_append, str_one]; omega)
      refine ⟨r, Ev.step (f := fun k => (some (([(wrap64 (48 + (Int.tmod (n : Int) 10))) % 256] : List Int) : List Int)).bind fun y => (if (strOfNums y).size + x3.size ≤ 9223372036854775807 then (laws_markText.l0 k (wrap64 (Int.tdiv (n : Int) 10)) ((strOfNums y) ++ x3)) else (none))) (fun k => ?_) (Ev.bind (Ev.now _) (ev_pos ?_ ?_))⟩
      · simp only [laws_markText.l0]; rw [if_pos (by omega)]
      · rw [str_one]; omega
      · rw [ht]; exact e
theorem laws_markText_ev (n : Int) (h0 : 0 ≤ n) (h1 : n ≤ 4000000000) : ∃ r, Ev (fun k => laws_markText.f k n) r := by
  unfold laws_markText.f
  by_cases h : n ≤ 0
  · exact ⟨_, ev_pos h (Ev.now _)⟩
  · obtain ⟨m, rfl⟩ : ∃ m : Nat, n = (m : Int) := ⟨n.toNat, by omega⟩
    obtain ⟨r, e⟩ := laws_markText_l0 m m ⟨#[]⟩ (by omega) (by omega) (by show 0 + m ≤ _; omega)
    exact ⟨r, ev_neg h e⟩
def MarkP (x : S32) : Prop := ∀ x1 : Int, 0 ≤ x1 → x1 + 6 * budX x ≤ 100000000 → ∃ r1 r2 : Int, x1 ≤ r1 ∧ r1 ≤ r2 ∧ r2 ≤ x1 + 6 * budX x ∧ Ev (fun k => laws_markExprS.f k x.f3 x1) r1 ∧ Ev (fun k => laws_markClauseS.f k x.f4 r1) r2
theorem markES_loop (l : List S32) (hl : (l.length : Int) ≤ 4194304) (h : ∀ y ∈ l, MarkP y) (d : Nat) :
    ∀ (i : Nat) (x1 : Int), i + d = l.length → 0 ≤ x1 → x1 + 6 * (d + budXL (l.drop i)) ≤ 100000000 → ∃ r : Int, x1 ≤ r ∧ r ≤ x1 + 6 * (d + budXL (l.drop i)) ∧ Ev (fun k => laws_markExprS.l0 k l x1 i) r := by
  induction d with
  | zero =>
    intro i x1 hi h0 hb
    refine ⟨x1, by omega, by omega, Ev.step (f := fun _ => some x1) (fun k => ?_) (Ev.now _)⟩
    simp only [laws_markExprS.l0]; rw [if_neg (by omega)]
  | succ d ih =>
    intro i x1 hi h0 hb
    have hlt : i < l.length := by omega
    have hc : budXL (l.drop i) = budX l[i] + budXL (l.drop (i + 1)) := by rw [List.drop_eq_getElem_cons hlt, budXL]
    obtain ⟨s, e⟩ := laws_markText_ev (x1 + 1 + 1) (by omega) (by omega)
    obtain ⟨r1, r2, h1, h2, h3, e1, e2⟩ := h l[i] (List.getElem_mem hlt) (x1 + 1 + 1 + 1) (by omega) (by omega)
    obtain ⟨r, h4, h5, e3⟩ := ih (i + 1) r2 (by omega) (by omega) (by omega)
    refine ⟨r, by omega, by omega, ?_⟩
    refine Ev.step (f := fun k => (laws_markText.f k (x1 + 1 + 1)).bind fun _ => ((laws_markExprS.f k l[i].f3 (x1 + 1 + 1 + 1)).bind fun t3 => ((laws_markClauseS.f k l[i].f4 t3).bind fun t4 => (laws_markExprS.l0 k l t4 (wrap64 ((i : Int) + 1)))))) (fun k => ?_) (Ev.bind e (Ev.bind e1 (Ev.bind e2 ?_)))
    · simp only [laws_markExprS.l0]
      rw [if_pos (by omega), if_pos (by omega), rdE l i hlt, w64 (x1 + 1) (by omega) (by omega), w64 (x1 + 1 + 1) (by omega) (by omega), w64 (x1 + 1 + 1 + 1) (by omega) (by omega)]
    · rw [w64 _ (by omega) (by omega)]
      exact e3
theorem markCS_loop (l : List (P42 S32)) (hl : (l.length : Int) ≤ 4194304) (h : ∀ c ∈ l, MarkP c.f0 ∧ MarkP c.f1) (d : Nat) :
    ∀ (i : Nat) (x1 : Int), i + d = l.length → 0 ≤ x1 → x1 + 6 * (d + budXC (l.drop i)) ≤ 100000000 → ∃ r : Int, x1 ≤ r ∧ r ≤ x1 + 6 * (d + budXC (l.drop i)) ∧ Ev (fun k => laws_markClauseS.l0 k l x1 i) r := by
  induction d with
  | zero =>
    intro i x1 hi h0 hb
    refine ⟨x1, by omega, by omega, Ev.step (f := fun _ => some x1) (fun k => ?_) (Ev.now _)⟩
    simp only [laws_markClauseS.l0]; rw [if_neg (by omega)]
  | succ d ih =>
    intro i x1 hi h0 hb
    have hlt : i < l.length := by omega
    have hc : budXC (l.drop i) = budX l[i].f0 + budX l[i].f1 + budXC (l.drop (i + 1)) := by
      rw [List.drop_eq_getElem_cons hlt, budXC]
      congr 1
      generalize l[i] = c
      cases c
      rw [budXc]
    obtain ⟨q0, q1⟩ := h l[i] (List.getElem_mem hlt)
    obtain ⟨s, e⟩ := laws_markText_ev (x1 + 1 + 1) (by omega) (by omega)
    obtain ⟨r1, r2, h1, h2, h3, e1, e2⟩ := q0 (x1 + 1 + 1 + 1) (by omega) (by omega)
    obtain ⟨s', e'⟩ := laws_markText_ev (r2 + 1 + 1) (by omega) (by omega)
    obtain ⟨r3, r4, h6, h7, h8, e4, e5⟩ := q1 (r2 + 1 + 1 + 1) (by omega) (by omega)
    obtain ⟨r, h4, h5, e3⟩ := ih (i + 1) r4 (by omega) (by omega) (by omega)
    refine ⟨r, by omega, by omega, ?_⟩
    refine Ev.step (f := fun k => (laws_markText.f k (x1 + 1 + 1)).bind fun _ => ((laws_markExprS.f k l[i].f0.f3 (x1 + 1 + 1 + 1)).bind fun t3 => ((laws_markClauseS.f k l[i].f0.f4 t3).bind fun t4 => ((laws_markText.f k (wrap64 ((wrap64 (t4 + 1)) + 1))).bind fun _ => ((laws_markExprS.f k l[i].f1.f3 (wrap64 ((wrap64 ((wrap64 (t4 + 1)) + 1)) + 1))).bind fun t8 => ((laws_markClauseS.f k l[i].f1.f4 t8).bind fun t9 => (laws_markClauseS.l0 k l t9 (wrap64 ((i : Int) + 1))))))))) (fun k => ?_) (Ev.bind e (Ev.bind e1 (Ev.bind e2 ?_)))
    · simp only [laws_markClauseS.l0]
      rw [if_pos (by omega), if_pos (by omega), rdC l i hlt, w64 (x1 + 1) (by omega) (by omega), w64 (x1 + 1 + 1) (by omega) (by omega), w64 (x1 + 1 + 1 + 1) (by omega) (by omega)]
    · rw [w64 (r2 + 1) (by omega) (by omega), w64 (r2 + 1 + 1) (by omega) (by omega), w64 (r2 + 1 + 1 + 1) (by omega) (by omega)]
      refine Ev.bind e' (Ev.bind e4 (Ev.bind e5 ?_))
      rw [w64 _ (by omega) (by omega)]
      exact e3
theorem markP_all : ∀ x, (budX x : Int) ≤ 4194304 → MarkP x := by
  refine indE ?_
  intro a b s l m ih ihc hb x1 h0 h1
  rw [budX] at hb h1 ⊢
  obtain ⟨r1, h2, h3, e1⟩ := markES_loop l (by omega) (fun y hy => ih y hy (by have := budXL_mem l y hy; omega)) l.length 0 x1 (by omega) h0 (by rw [List.drop_zero]; omega)
  obtain ⟨r2, h4, h5, e2⟩ := markCS_loop m (by omega) (fun c hc => ⟨(ihc c hc).1 (by have := budXC_mem m c hc; omega), (ihc c hc).2 (by have := budXC_mem m c hc; omega)⟩) m.length 0 r1 (by omega) (by omega) (by rw [List.drop_zero] at h3 ⊢; omega)
  rw [List.drop_zero] at h3 h5
  exact ⟨r1, r2, h2, h4, by omega, Ev.step (fun k => by simp only [laws_markExprS.f]; rfl) e1, Ev.step (fun k => by simp only [laws_markClauseS.f]; rfl) e2⟩
theorem markExpr_ev (a b : Int) (s : ByteArray) (l : List S32) (m : List (P42 S32)) (hb : (budX ⟨a, b, s, l, m⟩ : Int) ≤ 4194304) : ∃ r : Int, 1 ≤ r ∧ Ev (fun k => laws_markExpr.f k a b s l m 1) r := by
  obtain ⟨r1, r2, h1, h2, h3, e1, e2⟩ := markP_all ⟨a, b, s, l, m⟩ hb 1 (by omega) (by omega)
  unfold laws_markExpr.f
  exact ⟨r2, by omega, Ev.bind e1 (Ev.bind e2 (Ev.now _))⟩
theorem laws_eqStringS_l (x : List ByteArray) (hl : (x.length : Int) ≤ 281474976710656) (d : Nat) : ∀ (i : Nat), i + d = x.length → Ev (fun k => laws_eqStringS.l0 k x x i) true := by
  induction d with
  | zero =>
    intro i hi
    refine Ev.step (f := fun _ => some true) (fun k => ?_) (Ev.now _)
    simp only [laws_eqStringS.l0]; rw [if_neg (by omega)]
  | succ d ih =>
    intro i hi
    refine Ev.step (fun k => ?_) (ih (i + 1) (by omega))
    simp only [laws_eqStringS.l0]
    rw [if_pos (by omega), if_pos (by omega), if_pos (by omega), if_pos trivial, w64 _ (by omega) (by omega)]
    rfl
theorem laws_eqStringS_ev (x : List ByteArray) (hl : (x.length : Int) ≤ 281474976710656) : Ev (fun k => laws_eqStringS.f k x x) true := by
  unfold laws_eqStringS.f
  exact ev_pos rfl (laws_eqStringS_l x hl x.length 0 (by omega))
noncomputable def mtx (n : Int) : ByteArray := if h : 0 ≤ n ∧ n ≤ 4000000000 then Classical.choose (laws_markText_ev n h.1 h.2) else ByteArray.empty
theorem mtx_ev (n : Int) (h0 : 0 ≤ n) (h1 : n ≤ 4000000000) : Ev (fun k => laws_markText.f k n) (mtx n) := by
  unfold mtx
  rw [dif_pos ⟨h0, h1⟩]
  exact Classical.choose_spec (laws_markText_ev n h0 h1)
theorem set_takeS (l : List ByteArray) (i : Nat) (v : ByteArray) (h : i < l.length) : (l.set i v).take (i + 1) = l.take i ++ [v] := by
  rw [List.take_succ_eq_append_getElem (by simpa using h)]
  simp [List.take_set]
  rw [List.set_eq_of_length_le (by simp; omega)]
noncomputable def markS (n : Nat) (k : Int) : List ByteArray := (List.range n).map fun (i : Nat) => mtx (k + (i : Int))
theorem markS_len (n : Nat) (k : Int) : (markS n k).length = n := by simp [markS]
theorem markS_rd (n : Nat) (k : Int) (i : Nat) (h : i < n) : rdOf ByteArray.empty (markS n k) (i : Int) = mtx (k + (i : Int)) := by
  unfold rdOf markS
  simp [List.getD_eq_getElem?_getD, h]
theorem laws_markStringS_l (n : Nat) (k0 : Int) (hn : (n : Int) ≤ 8388608) (hk0 : 0 ≤ k0) (hk : k0 ≤ 8388608) (d : Nat) : ∀ (i : Nat) (y : List ByteArray), i + d = n → y.length = n → y.take i = (markS n k0).take i → Ev (fun k => laws_markStringS.l0 k y (k0 + (i : Int)) i) (k0 + (n : Int), markS n k0) := by
  induction d with
  | zero =>
    intro i y hi hy ht
    refine Ev.step (f := fun _ => some (k0 + (i : Int), y)) (fun k => ?_) (ev_cast ?_ (Ev.now _))
    · simp only [laws_markStringS.l0]; rw [if_neg (by omega)]
    · rw [List.take_of_length_le (by omega), List.take_of_length_le (by rw [markS_len]; omega)] at ht
      rw [ht]; simp; omega
  | succ d ih =>
    intro i y hi hy ht
    have := ih (i + 1) (y.set i (mtx (k0 + (i : Int)))) (by omega) (by simpa using hy) (by
      rw [set_takeS _ _ _ (by omega), ht, List.take_succ_eq_append_getElem (by rw [markS_len]; omega)]
      simp [markS])
    refine Ev.step (f := fun k => (laws_markText.f k (k0 + (i : Int))).bind fun t223 => (if 0 ≤ (i : Int) then (laws_markStringS.l0 k (y.set (i : Int).toNat t223) (wrap64 ((k0 + (i : Int)) + 1)) (wrap64 ((i : Int) + 1))) else (none))) (fun k => ?_) (Ev.bind (mtx_ev _ (by omega) (by omega)) (ev_pos (by omega) ?_))
    · simp only [laws_markStringS.l0]
      rw [if_pos (by omega)]
    · rw [w64 _ (by omega) (by omega), w64 _ (by omega) (by omega)]
      have e : k0 + (i : Int) + 1 = k0 + ((i + 1 : Nat) : Int) := by omega
      rw [e]
      exact this
theorem laws_markStringS_ev (l : List ByteArray) (hl : (l.length : Int) ≤ 8388608) : Ev (fun k => laws_markStringS.f k l 1) (1 + (l.length : Int), markS l.length 1) := by
  have := laws_markStringS_l l.length 1 hl (by omega) (by omega) l.length 0 l (by omega) rfl (by simp)
  simpa [laws_markStringS.f] using this
theorem laws_heldStringS_l (n : Nat) (k0 : Int) (hn : (n : Int) ≤ 8388608) (hk0 : 0 ≤ k0) (hk : k0 ≤ 8388608) (d : Nat) : ∀ (i : Nat), i + d = n → Ev (fun k => laws_heldStringS.l0 k (markS n k0) (k0 + (i : Int)) i) (k0 + (n : Int)) := by
  induction d with
  | zero =>
    intro i hi
    refine Ev.step (f := fun _ => some (k0 + (i : Int))) (fun k => ?_) (ev_cast ?_ (Ev.now _))
    · simp only [laws_heldStringS.l0]; rw [if_neg (by rw [markS_len]; omega)]
    · omega
  | succ d ih =>
    intro i hi
    refine Ev.step (f := fun k => (laws_markText.f k (k0 + (i : Int))).bind fun t226 => (if (rdOf ByteArray.empty (markS n k0) (i : Int)).toList = t226.toList then (laws_heldStringS.l0 k (markS n k0) (wrap64 ((k0 + (i : Int)) + 1)) (wrap64 ((i : Int) + 1))) else (some (-1)))) (fun k => ?_) (Ev.bind (mtx_ev _ (by omega) (by omega)) (ev_pos (by rw [markS_rd n k0 i (by omega)]) ?_))
    · simp only [laws_heldStringS.l0]
      rw [if_pos (by rw [markS_len]; omega), if_pos (by omega)]
    · rw [w64 _ (by omega) (by omega), w64 _ (by omega) (by omega)]
      have e : k0 + (i : Int) + 1 = k0 + ((i + 1 : Nat) : Int) := by omega
      rw [e]
      exact ih (i + 1) (by omega)
theorem laws_heldStringS_ev (n : Nat) (hl : (n : Int) ≤ 8388608) : Ev (fun k => laws_heldStringS.f k (markS n 1) 1) (1 + (n : Int)) := by
  have := laws_heldStringS_l n 1 hl (by omega) (by omega) n 0 (by omega)
  simpa [laws_heldStringS.f] using this
theorem FnExactCallsOf : laws_FnExactCallsOf.Pure := by
  intro a b s l m hw
  refine Ev.rounds (g := fun k => laws_FnExactCallsOf.f k a b s l m) ?_
  unfold laws_FnExactCallsOf.f
  refine Ev.bind (szE_all ⟨a, b, s, l, m⟩ hw 1048576 (by omega) (by omega)) ?_
  unfold szRes
  by_cases hb : (budE ⟨a, b, s, l, m⟩ : Int) ≤ 1048576
  · rw [if_pos hb]
    refine ev_neg (by omega) ?_
    have hi : (budX (cvE ⟨a, b, s, l, m⟩) : Int) ≤ 1048576 := by rw [budX_cv]; exact hb
    rw [cvE] at hi
    have ht : Ev (fun k => laws_toExpr.f k a b s l m) (a, b, s, cvEL l, cvCL m) := toE_all ⟨a, b, s, l, m⟩ hb
    have es : Ev (fun k => spec_CallsOf.f k a b s (cvEL l) (cvCL m)) _ := spec_Calls_all ⟨a, b, s, cvEL l, cvCL m⟩ (by omega)
    have ei : Ev (fun k => impl_CallsOf.f k a b s (cvEL l) (cvCL m)) _ := impl_Calls_all ⟨a, b, s, cvEL l, cvCL m⟩ (by omega)
    have hlen := calls_len ⟨a, b, s, cvEL l, cvCL m⟩
    obtain ⟨r, hr, em⟩ := markExpr_ev a b s (cvEL l) (cvCL m) (by omega)
    generalize callsM ⟨a, b, s, cvEL l, cvCL m⟩ = G at es ei hlen
    have eq := laws_eqStringS_ev G (by omega)
    have eh := laws_heldStringS_ev G.length (by omega)
    refine Ev.step (fun k => by simp only [laws_FnExactCallsOf.j0]; rfl) ?_
    refine Ev.bind ht (Ev.bind es (Ev.bind ht (Ev.bind ei (Ev.bind eq (ev_pos rfl ?_)))))
    refine Ev.step (fun k => by simp only [laws_FnExactCallsOf.j1]; rfl) ?_
    refine Ev.bind ht (Ev.bind (eqE_all ⟨a, b, s, cvEL l, cvCL m⟩ (by omega)) (ev_pos rfl ?_))
    refine Ev.step (fun k => by simp only [laws_FnExactCallsOf.j2]; rfl) ?_
    refine Ev.bind em (ev_neg (show ¬ r < 0 by omega) (Ev.bind eq ?_))
    refine Ev.step (f := fun k => laws_FnExactCallsOf.j4 k G G a b s l m) (fun k => by simp only [laws_FnExactCallsOf.j3]; rw [if_neg (by decide)]) ?_
    refine Ev.step (fun k => by simp only [laws_FnExactCallsOf.j4]; rfl) ?_
    refine Ev.bind (laws_markStringS_ev G (by omega)) (Ev.bind eh (ev_neg (by omega) ?_))
    refine Ev.step (f := fun k => laws_FnExactCallsOf.j6 k G (markS G.length 1) (1 + (G.length : Int)) a b s l m) (fun k => by simp only [laws_FnExactCallsOf.j5]; rw [if_pos trivial]) ?_
    refine Ev.step (fun k => by simp only [laws_FnExactCallsOf.j6]; rfl) ?_
    refine Ev.bind ht (Ev.bind ei (Ev.bind eq (ev_pos rfl ?_)))
    refine Ev.step (fun k => by simp only [laws_FnExactCallsOf.j7]; rfl) ?_
    exact Ev.bind eh (ev_neg (by omega) (ev_pos rfl (Ev.now _)))
  · rw [if_neg hb]
    exact ev_pos (by omega) (Ev.now _)

end Go.Proofs.Ytogeameinakelaa.Pure
