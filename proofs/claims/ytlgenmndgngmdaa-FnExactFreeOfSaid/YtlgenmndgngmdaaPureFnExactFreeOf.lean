/- What the law FnExactFreeOf of this seat says holds for every input that its row speaks of; no further condition. -/
import Derived.Test.YtlgenmndgngmdaaQFnExactFreeOfx9
import Derived.Lib.Strings
set_option linter.unusedVariables false
set_option linter.unusedSimpArgs false
namespace Go.Proofs.Ytlgenmndgngmdaa.Pure
open Go.RowKit Go.Proofs.Ytlgenmndgngmdaa.QFnExactFreeOf Go.Proofs.YtlgenmndgngmdaaW.PrintWords Go.Proofs.YtlgenmndgngmdaaW.PrintLast Go.Proofs.YtlgenmndgngmdaaW.PrintMore

theorem ev_pos {α : Type} {c : Prop} [Decidable c] {A B : Nat → Option α} {r : α} (h : c) (e : Ev A r) : Ev (fun k => if c then A k else B k) r := by
  obtain ⟨K, hK⟩ := e
  exact ⟨K, fun k hk => by simp only [if_pos h]; exact hK k hk⟩
theorem ev_neg {α : Type} {c : Prop} [Decidable c] {A B : Nat → Option α} {r : α} (h : ¬ c) (e : Ev B r) : Ev (fun k => if c then A k else B k) r := by
  obtain ⟨K, hK⟩ := e
  exact ⟨K, fun k hk => by simp only [if_neg h]; exact hK k hk⟩
theorem ev_of {α : Type} {o : Option α} {r : α} (h : o = some r) : Ev (fun _ => o) r := ⟨0, fun _ _ => h⟩
theorem ev_cast {α : Type} {g : Nat → Option α} {r r' : α} (h : r = r') (e : Ev g r) : Ev g r' := h ▸ e
theorem ev_uniq {α : Type} {g : Nat → Option α} {r r' : α} (h : Ev g r) (h' : Ev g r') : r = r' := by
  obtain ⟨K, hK⟩ := h
  obtain ⟨K', hK'⟩ := h'
  have a := hK (max K K') (Nat.le_max_left _ _)
  have b := hK' (max K K') (Nat.le_max_right _ _)
  rw [a] at b
  exact Option.some.inj b
theorem w64 (n : Int) (h0 : -9223372036854775808 ≤ n) (h1 : n ≤ 9223372036854775807) : wrap64 n = n := by unfold wrap64; omega
theorem dec_and (p q : Prop) [Decidable p] [Decidable q] : decide (p ∧ q) = (decide p && decide q) := by
  by_cases hp : p <;> by_cases hq : q <;> simp [hp, hq]
def szRes (left : Int) (b : Nat) : Int := if (b : Int) ≤ left then left - b else -1
theorem getDG {α : Type} (z : α) (l : List α) (i : Nat) (h : i < l.length) : l.getD ((i : Int)).toNat z = l[i] := by
  simp [List.getD_eq_getElem?_getD, List.getElem?_eq_getElem h]
theorem map_loop {α β : Type} (L : Nat → List β → Int → Option (List β)) (f : α → β) (l : List α)
    (hstep : ∀ (i : Nat) (h : i < l.length) (x : List β) (r : List β), x.length = l.length → Ev (fun k => L k (x.set i (f l[i])) ((i + 1 : Nat) : Int)) r → Ev (fun k => L k x (i : Int)) r)
    (hend : ∀ x : List β, x.length = l.length → Ev (fun k => L k x (l.length : Int)) x) (d : Nat) :
    ∀ (i : Nat) (x : List β), i + d = l.length → x.length = l.length → x.take i = (l.map f).take i → Ev (fun k => L k x (i : Int)) (l.map f) := by
  induction d with
  | zero =>
    intro i x hi hx ht
    have e : i = l.length := by omega
    subst e
    refine ev_cast ?_ (hend x hx)
    rwa [List.take_of_length_le (by omega), List.take_of_length_le (by rw [List.length_map]; omega)] at ht
  | succ d ih =>
    intro i x hi hx ht
    have hlt : i < l.length := by omega
    refine hstep i hlt x _ hx (ih (i + 1) _ (by omega) (by simpa using hx) ?_)
    rw [List.take_succ_eq_append_getElem (by simpa using (by omega : i < x.length)), List.take_set_of_le (Nat.le_refl i), ht, List.take_succ_eq_append_getElem (by simpa using hlt)]
    simp
theorem map_loop0 {α β : Type} (L : Nat → List β → Int → Option (List β)) (f : α → β) (l : List α) (z : β)
    (hstep : ∀ (i : Nat) (h : i < l.length) (x : List β) (r : List β), x.length = l.length → Ev (fun k => L k (x.set i (f l[i])) ((i + 1 : Nat) : Int)) r → Ev (fun k => L k x (i : Int)) r)
    (hend : ∀ x : List β, x.length = l.length → Ev (fun k => L k x (l.length : Int)) x) : Ev (fun k => L k (List.replicate l.length z) 0) (l.map f) :=
  map_loop L f l hstep hend l.length 0 (List.replicate l.length z) (by omega) (by simp) (by simp)
def sumB {α : Type} (bud : α → Nat) : List α → Nat
  | [] => 0
  | x :: r => bud x + sumB bud r
theorem sumB_drop {α : Type} (bud : α → Nat) (l : List α) (i : Nat) (h : i < l.length) : sumB bud (l.drop i) = bud l[i] + sumB bud (l.drop (i + 1)) := by
  rw [List.drop_eq_getElem_cons h, sumB]
theorem sumB_mem {α : Type} (bud : α → Nat) : ∀ (l : List α) (x : α), x ∈ l → bud x ≤ sumB bud l
  | [], x, h => by cases h
  | y :: r, x, h => by
    rw [sumB]
    rcases List.mem_cons.1 h with rfl | h
    · omega
    · have := sumB_mem bud r x h; omega
theorem sz_loopG {α : Type} (L : Nat → Int → Int → Option Int) (bud : α → Nat) (l : List α)
    (hstep : ∀ (i : Nat) (h : i < l.length) (left r : Int), 0 ≤ left → left ≤ 1048576 → ((bud l[i] : Int) ≤ left → Ev (fun k => L k (left - bud l[i]) ((i + 1 : Nat) : Int)) r) → (¬ (bud l[i] : Int) ≤ left → r = -1) → Ev (fun k => L k left (i : Int)) r)
    (hend : ∀ left : Int, Ev (fun k => L k left (l.length : Int)) left) (d : Nat) :
    ∀ (i : Nat) (left : Int), i + d = l.length → 0 ≤ left → left ≤ 1048576 → Ev (fun k => L k left (i : Int)) (szRes left (sumB bud (l.drop i))) := by
  induction d with
  | zero =>
    intro i left hi h0 h1
    have e : i = l.length := by omega
    subst e
    refine ev_cast ?_ (hend left)
    rw [List.drop_eq_nil_of_le (by omega), sumB]; unfold szRes; rw [if_pos (by omega)]; omega
  | succ d ih =>
    intro i left hi h0 h1
    have hlt : i < l.length := by omega
    rw [sumB_drop bud l i hlt]
    refine hstep i hlt left _ h0 h1 (fun hb => ?_) (fun hb => ?_)
    · refine ev_cast ?_ (ih (i + 1) (left - bud l[i]) (by omega) (by omega) (by omega))
      unfold szRes
      by_cases hc : (sumB bud (l.drop (i + 1)) : Int) ≤ left - bud l[i]
      · rw [if_pos hc, if_pos (by omega)]; omega
      · rw [if_neg hc, if_neg (by omega)]
    · unfold szRes; rw [if_neg (by omega)]
def allFrom (p : Nat → Bool) (i d : Nat) : Bool := (List.range' i d).all p
theorem all_loop (L : Nat → Int → Option Bool) (p : Nat → Bool) (n : Nat)
    (hstep : ∀ (i : Nat), i < n → ∀ r, (p i = true → Ev (fun k => L k ((i + 1 : Nat) : Int)) r) → (p i = false → r = false) → Ev (fun k => L k (i : Int)) r)
    (hend : Ev (fun k => L k (n : Int)) true) (d : Nat) : ∀ i : Nat, i + d = n → Ev (fun k => L k (i : Int)) (allFrom p i d) := by
  induction d with
  | zero =>
    intro i hi
    have e : i = n := by omega
    subst e
    exact hend
  | succ d ih =>
    intro i hi
    refine hstep i (by omega) _ (fun hp => ?_) (fun hp => ?_)
    · refine ev_cast ?_ (ih (i + 1) (by omega))
      unfold allFrom
      rw [List.range'_succ, List.all_cons, hp, Bool.true_and]
    · unfold allFrom
      rw [List.range'_succ, List.all_cons, hp, Bool.false_and]
theorem rdE (l : List S32) (i : Nat) (h : i < l.length) : rd_T32 l (i : Int) = l[i] := getDG _ l i h
theorem rdC (l : List S46) (i : Nat) (h : i < l.length) : rd_T46 l (i : Int) = l[i] := getDG _ l i h
theorem indE {P : S32 → Prop} (h : ∀ a b s l m, (∀ y ∈ l, P y) → (∀ c : P46 S32, c ∈ m → P c.f0 ∧ P c.f1) → P ⟨a, b, s, l, m⟩) : ∀ x, P x := by
  intro x
  refine S32.rec (motive_1 := P) (motive_2 := fun l => ∀ y ∈ l, P y) (motive_3 := fun m => ∀ c ∈ m, P c.f0 ∧ P c.f1) (motive_4 := fun c => P c.f0 ∧ P c.f1) ?_ ?_ ?_ ?_ ?_ ?_ x
  · intro a b s l m hl hm
    exact h a b s l m hl hm
  · intro y hy; cases hy
  · intro x r hx hr y hy
    rcases List.mem_cons.1 hy with rfl | hy
    · exact hx
    · exact hr y hy
  · intro y hy; cases hy
  · intro x r hx hr y hy
    rcases List.mem_cons.1 hy with rfl | hy
    · exact hx
    · exact hr y hy
  · intro p q hp hq
    exact ⟨hp, hq⟩
mutual
def budX : S32 → Nat
  | ⟨_, _, s, l, m⟩ => s.size + (l.length + budXL l) + (m.length + budXC m)
def budXL : List S32 → Nat
  | [] => 0
  | x :: r => budX x + budXL r
def budXc : P46 S32 → Nat
  | ⟨p, x⟩ => budX p + budX x
def budXC : List (P46 S32) → Nat
  | [] => 0
  | x :: r => budXc x + budXC r
end
theorem budXL_mem : ∀ (l : List S32) (x : S32), x ∈ l → budX x ≤ budXL l
  | [], x, h => by cases h
  | y :: r, x, h => by
    rw [budXL]
    rcases List.mem_cons.1 h with rfl | h
    · omega
    · have := budXL_mem r x h; omega
theorem budXC_mem : ∀ (l : List (P46 S32)) (c : P46 S32), c ∈ l → budX c.f0 + budX c.f1 ≤ budXC l
  | [], x, h => by cases h
  | y :: r, x, h => by
    rw [budXC]
    rcases List.mem_cons.1 h with rfl | h
    · obtain ⟨p, q⟩ := x
      rw [budXc]
      show budX p + budX q ≤ _
      omega
    · have := budXC_mem r x h; omega
theorem rdLE (l : List S25) (i : Nat) (h : i < l.length) : rd_T25 l (i : Int) = l[i] := getDG _ l i h
theorem rdLC (l : List S55) (i : Nat) (h : i < l.length) : rd_T55 l (i : Int) = l[i] := getDG _ l i h
theorem indLE {P : S25 → Prop} (h : ∀ a b s l m, (∀ y ∈ l, P y) → (∀ c : P55 S25, c ∈ m → P c.f0 ∧ P c.f1) → P ⟨a, b, s, l, m⟩) : ∀ x, P x := by
  intro x
  refine S25.rec (motive_1 := P) (motive_2 := fun l => ∀ y ∈ l, P y) (motive_3 := fun m => ∀ c ∈ m, P c.f0 ∧ P c.f1) (motive_4 := fun c => P c.f0 ∧ P c.f1) ?_ ?_ ?_ ?_ ?_ ?_ x
  · intro a b s l m hl hm
    exact h a b s l m hl hm
  · intro y hy; cases hy
  · intro x r hx hr y hy
    rcases List.mem_cons.1 hy with rfl | hy
    · exact hx
    · exact hr y hy
  · intro y hy; cases hy
  · intro x r hx hr y hy
    rcases List.mem_cons.1 hy with rfl | hy
    · exact hx
    · exact hr y hy
  · intro p q hp hq
    exact ⟨hp, hq⟩
mutual
def budE : S25 → Nat
  | ⟨_, _, s, l, m⟩ => s.size + (l.length + budEL l) + (m.length + budCL m)
def budEL : List S25 → Nat
  | [] => 0
  | x :: r => budE x + budEL r
def budCc : P55 S25 → Nat
  | ⟨p, x⟩ => budE p + budE x
def budCL : List (P55 S25) → Nat
  | [] => 0
  | x :: r => budCc x + budCL r
end
mutual
def cvE : S25 → S32
  | ⟨a, b, s, l, m⟩ => ⟨a, b, s, cvEL l, cvCL m⟩
def cvEL : List S25 → List S32
  | [] => []
  | x :: r => cvE x :: cvEL r
def cvC : P55 S25 → P46 S32
  | ⟨p, x⟩ => ⟨cvE p, cvE x⟩
def cvCL : List (P55 S25) → List (P46 S32)
  | [] => []
  | x :: r => cvC x :: cvCL r
end
theorem cvEL_map : ∀ l, cvEL l = l.map cvE
  | [] => rfl
  | x :: r => by rw [cvEL, List.map_cons, cvEL_map r]
theorem cvCL_map : ∀ l, cvCL l = l.map cvC
  | [] => rfl
  | x :: r => by rw [cvCL, List.map_cons, cvCL_map r]
theorem cvEL_len (l : List S25) : (cvEL l).length = l.length := by rw [cvEL_map, List.length_map]
theorem cvCL_len (l : List (P55 S25)) : (cvCL l).length = l.length := by rw [cvCL_map, List.length_map]
mutual
theorem budX_cv : ∀ x, budX (cvE x) = budE x
  | ⟨a, b, s, l, m⟩ => by rw [cvE, budX, budE, budXL_cv l, budXC_cv m, cvEL_len, cvCL_len]
theorem budXL_cv : ∀ l, budXL (cvEL l) = budEL l
  | [] => by rw [cvEL, budXL, budEL]
  | x :: r => by rw [cvEL, budXL, budEL, budX_cv x, budXL_cv r]
theorem budXc_cv : ∀ x, budXc (cvC x) = budCc x
  | ⟨p, x⟩ => by rw [cvC, budXc, budCc, budX_cv p, budX_cv x]
theorem budXC_cv : ∀ l, budXC (cvCL l) = budCL l
  | [] => by rw [cvCL, budXC, budCL]
  | x :: r => by rw [cvCL, budXC, budCL, budXc_cv x, budXC_cv r]
end
theorem sumE : ∀ l, sumB budE l = budEL l
  | [] => by rw [sumB, budEL]
  | x :: r => by rw [sumB, budEL, sumE r]
theorem sumC : ∀ l, sumB budCc l = budCL l
  | [] => by rw [sumB, budCL]
  | x :: r => by rw [sumB, budCL, sumC r]
theorem wfE_mk {a b : Int} {s : ByteArray} {l : List S25} {m : List (P55 S25)} (h : wf25 ⟨a, b, s, l, m⟩) : (s.size : Int) ≤ 9223372036854775807 ∧ (l.length : Int) ≤ 9223372036854775807 ∧ (∀ x ∈ l, wf25 x) ∧ (m.length : Int) ≤ 9223372036854775807 ∧ ∀ c : P55 S25, c ∈ m → wf25 c.f0 ∧ wf25 c.f1 := by
  unfold wf25 at h
  obtain ⟨h0, h1, h2, ⟨h3, h4⟩, h5, h6⟩ := h
  unfold maxLen at h2 h3 h5
  refine ⟨by omega, by omega, (wfl25_iff l).1 h4, by omega, fun c hc => ?_⟩
  have := (wfl55_iff m).1 h6 c hc
  obtain ⟨p, x⟩ := c
  unfold wf55 at this
  exact this
theorem szES_of (l : List S25) (hl : (l.length : Int) ≤ 9223372036854775807)
    (h : ∀ y ∈ l, ∀ left : Int, 0 ≤ left → left ≤ 1048576 → Ev (fun k => laws_szExpr.f k y.f0 y.f1 y.f2 y.f3 y.f4 left) (szRes left (budE y))) (left : Int) (h0 : 0 ≤ left) (h1 : left ≤ 1048576) :
    Ev (fun k => laws_szExprS.f k l left) (szRes left (l.length + budEL l)) := by
  by_cases hc : left - (l.length : Int) < 0
  · refine Ev.step (f := fun _ => some (-1)) (fun k => ?_) (ev_cast ?_ (Ev.now _))
    · simp only [laws_szExprS.f]; rw [w64 _ (by omega) (by omega), if_pos hc]
    · unfold szRes; rw [if_neg (by omega)]
  · refine Ev.step (f := fun k => laws_szExprS.l0 k l (left - l.length) 0) (fun k => ?_) (ev_cast ?_ (sz_loopG (fun k left i => laws_szExprS.l0 k l left i) budE l ?_ ?_ l.length 0 (left - l.length) (by omega) (by omega) (by omega)))
    · simp only [laws_szExprS.f]; rw [w64 _ (by omega) (by omega), if_neg hc]
    · rw [List.drop_zero, sumE]
      unfold szRes
      by_cases hb : (budEL l : Int) ≤ left - l.length
      · rw [if_pos hb, if_pos (by omega)]; omega
      · rw [if_neg hb, if_neg (by omega)]
    · intro i hi left r q0 q1 hr hn
      have e := h _ (List.getElem_mem hi) left q0 q1
      refine Ev.step (f := fun k => (laws_szExpr.f k l[i].f0 l[i].f1 l[i].f2 l[i].f3 l[i].f4 left).bind fun t102 => (if t102 < 0 then (some (-1)) else (laws_szExprS.l0 k l t102 (wrap64 ((i : Int) + 1))))) (fun k => ?_) (Ev.bind e ?_)
      · simp only [laws_szExprS.l0]; rw [if_pos (by omega), if_pos (by omega), rdLE l i hi]
      · rw [w64 _ (by omega) (by omega)]
        unfold szRes
        by_cases hb : (budE l[i] : Int) ≤ left
        · rw [if_pos hb]; exact ev_neg (by omega) (hr hb)
        · rw [if_neg hb]; exact ev_pos (by omega) (ev_cast (hn hb).symm (Ev.now _))
    · intro left
      refine Ev.step (f := fun _ => some left) (fun k => ?_) (Ev.now _)
      simp only [laws_szExprS.l0]; rw [if_neg (by omega)]
theorem szC_of (c : P55 S25) (e0 : ∀ left : Int, 0 ≤ left → left ≤ 1048576 → Ev (fun k => laws_szExpr.f k c.f0.f0 c.f0.f1 c.f0.f2 c.f0.f3 c.f0.f4 left) (szRes left (budE c.f0)))
    (e1 : ∀ left : Int, 0 ≤ left → left ≤ 1048576 → Ev (fun k => laws_szExpr.f k c.f1.f0 c.f1.f1 c.f1.f2 c.f1.f3 c.f1.f4 left) (szRes left (budE c.f1))) (left : Int) (h0 : 0 ≤ left) (h1 : left ≤ 1048576) :
    Ev (fun k => laws_szClause.f k c.f0.f0 c.f0.f1 c.f0.f2 c.f0.f3 c.f0.f4 c.f1.f0 c.f1.f1 c.f1.f2 c.f1.f3 c.f1.f4 left) (szRes left (budCc c)) := by
  have hbc : budCc c = budE c.f0 + budE c.f1 := by cases c; rw [budCc]
  refine Ev.step (f := fun k => (laws_szExpr.f k c.f0.f0 c.f0.f1 c.f0.f2 c.f0.f3 c.f0.f4 left).bind fun t104 => (if t104 < 0 then (some (-1)) else ((laws_szExpr.f k c.f1.f0 c.f1.f1 c.f1.f2 c.f1.f3 c.f1.f4 t104).bind fun t105 => (if t105 < 0 then (some (-1)) else (some t105))))) (fun k => rfl) (Ev.bind (e0 left h0 h1) ?_)
  unfold szRes
  by_cases hb : (budE c.f0 : Int) ≤ left
  · rw [if_pos hb]
    refine ev_neg (by omega) (Ev.bind (e1 (left - budE c.f0) (by omega) (by omega)) ?_)
    unfold szRes
    by_cases hb2 : (budE c.f1 : Int) ≤ left - budE c.f0
    · rw [if_pos hb2]
      refine ev_neg (by omega) (ev_cast ?_ (Ev.now _))
      rw [if_pos (by omega)]; omega
    · rw [if_neg hb2]
      refine ev_pos (by omega) (ev_cast ?_ (Ev.now _))
      rw [if_neg (by omega)]
  · rw [if_neg hb]
    refine ev_pos (by omega) (ev_cast ?_ (Ev.now _))
    rw [if_neg (by omega)]
theorem szCS_of (l : List (P55 S25)) (hl : (l.length : Int) ≤ 9223372036854775807)
    (h : ∀ c ∈ l, ∀ left : Int, 0 ≤ left → left ≤ 1048576 → Ev (fun k => laws_szClause.f k c.f0.f0 c.f0.f1 c.f0.f2 c.f0.f3 c.f0.f4 c.f1.f0 c.f1.f1 c.f1.f2 c.f1.f3 c.f1.f4 left) (szRes left (budCc c))) (left : Int) (h0 : 0 ≤ left) (h1 : left ≤ 1048576) :
    Ev (fun k => laws_szClauseS.f k l left) (szRes left (l.length + budCL l)) := by
  by_cases hc : left - (l.length : Int) < 0
  · refine Ev.step (f := fun _ => some (-1)) (fun k => ?_) (ev_cast ?_ (Ev.now _))
    · simp only [laws_szClauseS.f]; rw [w64 _ (by omega) (by omega), if_pos hc]
    · unfold szRes; rw [if_neg (by omega)]
  · refine Ev.step (f := fun k => laws_szClauseS.l0 k l (left - l.length) 0) (fun k => ?_) (ev_cast ?_ (sz_loopG (fun k left i => laws_szClauseS.l0 k l left i) budCc l ?_ ?_ l.length 0 (left - l.length) (by omega) (by omega) (by omega)))
    · simp only [laws_szClauseS.f]; rw [w64 _ (by omega) (by omega), if_neg hc]
    · rw [List.drop_zero, sumC]
      unfold szRes
      by_cases hb : (budCL l : Int) ≤ left - l.length
      · rw [if_pos hb, if_pos (by omega)]; omega
      · rw [if_neg hb, if_neg (by omega)]
    · intro i hi left r q0 q1 hr hn
      have e := h _ (List.getElem_mem hi) left q0 q1
      have hrd := rdLC l i hi
      generalize l[i] = c at *
      refine Ev.step (f := fun k => (laws_szClause.f k c.f0.f0 c.f0.f1 c.f0.f2 c.f0.f3 c.f0.f4 c.f1.f0 c.f1.f1 c.f1.f2 c.f1.f3 c.f1.f4 left).bind fun t102 => (if t102 < 0 then (some (-1)) else (laws_szClauseS.l0 k l t102 (wrap64 ((i : Int) + 1))))) (fun k => ?_) (Ev.bind e ?_)
      · simp only [laws_szClauseS.l0]; rw [if_pos (by omega), if_pos (by omega), hrd]
      · rw [w64 _ (by omega) (by omega)]
        unfold szRes
        by_cases hb : (budCc c : Int) ≤ left
        · rw [if_pos hb]; exact ev_neg (by omega) (hr hb)
        · rw [if_neg hb]; exact ev_pos (by omega) (ev_cast (hn hb).symm (Ev.now _))
    · intro left
      refine Ev.step (f := fun _ => some left) (fun k => ?_) (Ev.now _)
      simp only [laws_szClauseS.l0]; rw [if_neg (by omega)]
theorem szE_all : ∀ x, wf25 x → ∀ left : Int, 0 ≤ left → left ≤ 1048576 → Ev (fun k => laws_szExpr.f k x.f0 x.f1 x.f2 x.f3 x.f4 left) (szRes left (budE x)) := by
  refine indLE ?_
  intro a b s l m ih ihc hw left h0 h1
  obtain ⟨hs, hl, hm, hl2, hm2⟩ := wfE_mk hw
  simp only []
  rw [budE]
  by_cases hc : left - (s.size : Int) < 0
  · refine Ev.step (f := fun _ => some (-1)) (fun k => ?_) (ev_cast ?_ (Ev.now _))
    · simp only [laws_szExpr.f]; rw [w64 _ (by omega) (by omega), if_pos hc]
    · unfold szRes; rw [if_neg (by omega)]
  · refine Ev.step (f := fun k => (laws_szExprS.f k l (left - (s.size : Int))).bind fun t109 => (if t109 < 0 then (some (-1)) else ((laws_szClauseS.f k m t109).bind fun t110 => (if t110 < 0 then (some (-1)) else (some t110))))) (fun k => ?_) (Ev.bind (szES_of l hl (fun y hy => ih y hy (hm y hy)) (left - s.size) (by omega) (by omega)) ?_)
    · simp only [laws_szExpr.f]; rw [w64 _ (by omega) (by omega), if_neg hc]
    · unfold szRes
      by_cases hb : ((l.length + budEL l : Nat) : Int) ≤ left - s.size
      · rw [if_pos hb]
        refine ev_neg (by omega) (Ev.bind (szCS_of m hl2 (fun c hc2 => szC_of c ((ihc c hc2).1 (hm2 c hc2).1) ((ihc c hc2).2 (hm2 c hc2).2)) (left - s.size - ((l.length + budEL l : Nat) : Int)) (by omega) (by omega)) ?_)
        unfold szRes
        by_cases hb2 : ((m.length + budCL m : Nat) : Int) ≤ left - s.size - ((l.length + budEL l : Nat) : Int)
        · rw [if_pos hb2]
          refine ev_neg (by omega) (ev_cast ?_ (Ev.now _))
          rw [if_pos (by omega)]; omega
        · rw [if_neg hb2]
          refine ev_pos (by omega) (ev_cast ?_ (Ev.now _))
          rw [if_neg (by omega)]
      · rw [if_neg hb]
        refine ev_pos (by omega) (ev_cast ?_ (Ev.now _))
        rw [if_neg (by omega)]
theorem toES_of (l : List S25) (hl : (l.length : Int) ≤ 1048576)
    (h : ∀ y ∈ l, Ev (fun k => laws_toExpr.f k y.f0 y.f1 y.f2 y.f3 y.f4) (y.f0, y.f1, y.f2, cvEL y.f3, cvCL y.f4)) : Ev (fun k => laws_toExprS.f k l) (cvEL l) := by
  rw [cvEL_map]
  refine Ev.step (f := fun k => laws_toExprS.l0 k l (List.replicate l.length z32) 0) (fun k => ?_) (map_loop0 (fun k x i => laws_toExprS.l0 k l x i) cvE l _ ?_ ?_)
  · simp only [laws_toExprS.f]; rw [if_pos (by omega), if_pos (by omega), Int.toNat_natCast]
  · intro i hi x r hx e
    have e0 := h _ (List.getElem_mem hi)
    have hrd := rdLE l i hi
    generalize l[i] = y at *
    refine Ev.step (f := fun k => (laws_toExpr.f k y.f0 y.f1 y.f2 y.f3 y.f4).bind fun bt126 => (if (i : Int) < (x.length : Int) then (laws_toExprS.l0 k l (x.set ((i : Int)).toNat (⟨bt126.1, bt126.2.1, bt126.2.2.1, bt126.2.2.2.1, bt126.2.2.2.2⟩ : S32)) (wrap64 ((i : Int) + 1))) else none)) (fun k => ?_) (Ev.bind e0 (ev_pos (by omega) ?_))
    · simp only [laws_toExprS.l0]; rw [if_pos (by omega), if_pos (by omega), hrd]
    · rw [w64 _ (by omega) (by omega), Int.toNat_natCast]
      have ec : (⟨y.f0, y.f1, y.f2, cvEL y.f3, cvCL y.f4⟩ : S32) = cvE y := by cases y; rw [cvE]
      simp only [ec]
      exact e
  · intro x hx
    refine Ev.step (f := fun _ => some x) (fun k => ?_) (Ev.now _)
    simp only [laws_toExprS.l0]; rw [if_neg (by omega)]
theorem toCS_of (l : List (P55 S25)) (hl : (l.length : Int) ≤ 1048576)
    (h : ∀ c ∈ l, Ev (fun k => laws_toExpr.f k c.f0.f0 c.f0.f1 c.f0.f2 c.f0.f3 c.f0.f4) (c.f0.f0, c.f0.f1, c.f0.f2, cvEL c.f0.f3, cvCL c.f0.f4) ∧ Ev (fun k => laws_toExpr.f k c.f1.f0 c.f1.f1 c.f1.f2 c.f1.f3 c.f1.f4) (c.f1.f0, c.f1.f1, c.f1.f2, cvEL c.f1.f3, cvCL c.f1.f4)) : Ev (fun k => laws_toClauseS.f k l) (cvCL l) := by
  rw [cvCL_map]
  refine Ev.step (f := fun k => laws_toClauseS.l0 k l (List.replicate l.length z46) 0) (fun k => ?_) (map_loop0 (fun k x i => laws_toClauseS.l0 k l x i) cvC l _ ?_ ?_)
  · simp only [laws_toClauseS.f]; rw [if_pos (by omega), if_pos (by omega), Int.toNat_natCast]
  · intro i hi x r hx e
    have e0 := h _ (List.getElem_mem hi)
    have hrd := rdLC l i hi
    generalize l[i] = c at *
    have e1 : Ev (fun k => laws_toClause.f k c.f0.f0 c.f0.f1 c.f0.f2 c.f0.f3 c.f0.f4 c.f1.f0 c.f1.f1 c.f1.f2 c.f1.f3 c.f1.f4) (c.f0.f0, c.f0.f1, c.f0.f2, cvEL c.f0.f3, cvCL c.f0.f4, c.f1.f0, c.f1.f1, c.f1.f2, cvEL c.f1.f3, cvCL c.f1.f4) :=
      Ev.step (fun k => by simp only [laws_toClause.f]; rfl) (Ev.bind e0.1 (Ev.bind e0.2 (ev_of (o := some (c.f0.f0, c.f0.f1, c.f0.f2, cvEL c.f0.f3, cvCL c.f0.f4, c.f1.f0, c.f1.f1, c.f1.f2, cvEL c.f1.f3, cvCL c.f1.f4)) rfl)))
    refine Ev.step (f := fun k => (laws_toClause.f k c.f0.f0 c.f0.f1 c.f0.f2 c.f0.f3 c.f0.f4 c.f1.f0 c.f1.f1 c.f1.f2 c.f1.f3 c.f1.f4).bind fun bt161 => (if (i : Int) < (x.length : Int) then (laws_toClauseS.l0 k l (x.set ((i : Int)).toNat (⟨(⟨bt161.1, bt161.2.1, bt161.2.2.1, bt161.2.2.2.1, bt161.2.2.2.2.1⟩ : S32), (⟨bt161.2.2.2.2.2.1, bt161.2.2.2.2.2.2.1, bt161.2.2.2.2.2.2.2.1, bt161.2.2.2.2.2.2.2.2.1, bt161.2.2.2.2.2.2.2.2.2⟩ : S32)⟩ : S46)) (wrap64 ((i : Int) + 1))) else none)) (fun k => ?_) (Ev.bind e1 (ev_pos (by omega) ?_))
    · simp only [laws_toClauseS.l0]; rw [if_pos (by omega), if_pos (by omega), hrd]
    · rw [w64 _ (by omega) (by omega), Int.toNat_natCast]
      obtain ⟨p, q⟩ := c
      have ec : (⟨(⟨p.f0, p.f1, p.f2, cvEL p.f3, cvCL p.f4⟩ : S32), (⟨q.f0, q.f1, q.f2, cvEL q.f3, cvCL q.f4⟩ : S32)⟩ : S46) = cvC ⟨p, q⟩ := by cases p; cases q; rw [cvC, cvE, cvE]
      simp only [ec]
      exact e
  · intro x hx
    refine Ev.step (f := fun _ => some x) (fun k => ?_) (Ev.now _)
    simp only [laws_toClauseS.l0]; rw [if_neg (by omega)]
theorem budEL_mem (l : List S25) (x : S25) (h : x ∈ l) : budE x ≤ budEL l := by have := sumB_mem budE l x h; rwa [sumE] at this
theorem budCL_mem (l : List (P55 S25)) (c : P55 S25) (h : c ∈ l) : budE c.f0 + budE c.f1 ≤ budCL l := by
  have := sumB_mem budCc l c h
  rw [sumC] at this
  have hbc : budCc c = budE c.f0 + budE c.f1 := by cases c; rw [budCc]
  omega
theorem toE_all : ∀ x, (budE x : Int) ≤ 1048576 → Ev (fun k => laws_toExpr.f k x.f0 x.f1 x.f2 x.f3 x.f4) (x.f0, x.f1, x.f2, cvEL x.f3, cvCL x.f4) := by
  refine indLE ?_
  intro a b s l m ih ihc hb
  rw [budE] at hb
  refine Ev.step (f := fun k => (laws_toExprS.f k l).bind fun t183 => ((laws_toClauseS.f k m).bind fun t186 => (some (a, b, s, t183, t186)))) (fun k => ?_) (Ev.bind (toES_of l (by omega) (fun y hy => ih y hy (by have := budEL_mem l y hy; omega))) (Ev.bind (toCS_of m (by omega) (fun c hc => ⟨(ihc c hc).1 (by have := budCL_mem m c hc; omega), (ihc c hc).2 (by have := budCL_mem m c hc; omega)⟩)) (Ev.now _)))
  simp only [laws_toExpr.f]
theorem eqES_of (l : List S32) (hl : (l.length : Int) ≤ 4194304) (h : ∀ y ∈ l, Ev (fun k => laws_eqExpr.f k y.f0 y.f1 y.f2 y.f3 y.f4 y.f0 y.f1 y.f2 y.f3 y.f4) true) : Ev (fun k => laws_eqExprS.f k l l) true := by
  refine Ev.step (f := fun k => laws_eqExprS.l0 k l l 0) (fun k => ?_) (ev_cast ?_ (all_loop (fun k i => laws_eqExprS.l0 k l l i) (fun _ => true) l.length ?_ ?_ l.length 0 (by omega)))
  · simp only [laws_eqExprS.f]; rw [if_pos trivial]
  · unfold allFrom; simp
  · intro i hi r hr _
    have e := h _ (List.getElem_mem hi)
    have hrd := rdE l i hi
    generalize l[i] = y at *
    refine Ev.step (f := fun k => (laws_eqExpr.f k y.f0 y.f1 y.f2 y.f3 y.f4 y.f0 y.f1 y.f2 y.f3 y.f4).bind fun t209 => (if t209 = true then (laws_eqExprS.l0 k l l (wrap64 ((i : Int) + 1))) else (some false))) (fun k => ?_) (Ev.bind e (ev_pos rfl ?_))
    · simp only [laws_eqExprS.l0]; rw [if_pos (by omega), if_pos (by omega), if_pos (by omega), hrd]
    · rw [w64 _ (by omega) (by omega)]; exact hr rfl
  · refine Ev.step (f := fun _ => some true) (fun k => ?_) (Ev.now _)
    simp only [laws_eqExprS.l0]; rw [if_neg (by omega)]
theorem eqCS_of (l : List (P46 S32)) (hl : (l.length : Int) ≤ 4194304) (h : ∀ c ∈ l, Ev (fun k => laws_eqExpr.f k c.f0.f0 c.f0.f1 c.f0.f2 c.f0.f3 c.f0.f4 c.f0.f0 c.f0.f1 c.f0.f2 c.f0.f3 c.f0.f4) true ∧ Ev (fun k => laws_eqExpr.f k c.f1.f0 c.f1.f1 c.f1.f2 c.f1.f3 c.f1.f4 c.f1.f0 c.f1.f1 c.f1.f2 c.f1.f3 c.f1.f4) true) : Ev (fun k => laws_eqClauseS.f k l l) true := by
  refine Ev.step (f := fun k => laws_eqClauseS.l0 k l l 0) (fun k => ?_) (ev_cast ?_ (all_loop (fun k i => laws_eqClauseS.l0 k l l i) (fun _ => true) l.length ?_ ?_ l.length 0 (by omega)))
  · simp only [laws_eqClauseS.f]; rw [if_pos trivial]
  · unfold allFrom; simp
  · intro i hi r hr _
    have e := h _ (List.getElem_mem hi)
    have hrd := rdC l i hi
    generalize l[i] = c at *
    have e1 : Ev (fun k => laws_eqClause.f k c.f0.f0 c.f0.f1 c.f0.f2 c.f0.f3 c.f0.f4 c.f1.f0 c.f1.f1 c.f1.f2 c.f1.f3 c.f1.f4 c.f0.f0 c.f0.f1 c.f0.f2 c.f0.f3 c.f0.f4 c.f1.f0 c.f1.f1 c.f1.f2 c.f1.f3 c.f1.f4) true :=
      Ev.step (fun k => by simp only [laws_eqClause.f]; rfl) (Ev.bind e.1 (ev_pos rfl (Ev.bind e.2 (ev_pos rfl (Ev.now _)))))
    refine Ev.step (f := fun k => (laws_eqClause.f k c.f0.f0 c.f0.f1 c.f0.f2 c.f0.f3 c.f0.f4 c.f1.f0 c.f1.f1 c.f1.f2 c.f1.f3 c.f1.f4 c.f0.f0 c.f0.f1 c.f0.f2 c.f0.f3 c.f0.f4 c.f1.f0 c.f1.f1 c.f1.f2 c.f1.f3 c.f1.f4).bind fun t209 => (if t209 = true then (laws_eqClauseS.l0 k l l (wrap64 ((i : Int) + 1))) else (some false))) (fun k => ?_) (Ev.bind e1 (ev_pos rfl ?_))
    · simp only [laws_eqClauseS.l0]; rw [if_pos (by omega), if_pos (by omega), if_pos (by omega), hrd]
    · rw [w64 _ (by omega) (by omega)]; exact hr rfl
  · refine Ev.step (f := fun _ => some true) (fun k => ?_) (Ev.now _)
    simp only [laws_eqClauseS.l0]; rw [if_neg (by omega)]
theorem eqE_all : ∀ x, (budX x : Int) ≤ 4194304 → Ev (fun k => laws_eqExpr.f k x.f0 x.f1 x.f2 x.f3 x.f4 x.f0 x.f1 x.f2 x.f3 x.f4) true := by
  refine indE ?_
  intro a b s l m ih ihc hb
  rw [budX] at hb
  refine Ev.step (f := fun k => (laws_eqExprS.f k l l).bind fun t219 => (if t219 = true then ((laws_eqClauseS.f k m m).bind fun t220 => (if t220 = true then (some true) else (some false))) else (some false))) (fun k => ?_) (Ev.bind (eqES_of l (by omega) (fun y hy => ih y hy (by have := budXL_mem l y hy; omega))) (ev_pos rfl (Ev.bind (eqCS_of m (by omega) (fun c hc => ⟨(ihc c hc).1 (by have := budXC_mem m c hc; omega), (ihc c hc).2 (by have := budXC_mem m c hc; omega)⟩)) (ev_pos rfl (Ev.now _)))))
  simp only [laws_eqExpr.f]
  simp
mutual
def varsM : S32 → List ByteArray
  | ⟨a, _, s, l, _⟩ => if a = 3 then (if s.toList = ([95] : List UInt8) then [] else [s]) else varsML l
def varsML : List S32 → List ByteArray
  | [] => []
  | x :: r => varsM x ++ varsML r
end
theorem vars_len : ∀ x, (varsM x).length ≤ 1 + budX x := by
  refine indE ?_
  intro a b s l m ih _
  rw [varsM, budX]
  split
  · split <;> simp
  · have : ∀ l : List S32, (∀ y ∈ l, (varsM y).length ≤ 1 + budX y) → (varsML l).length ≤ l.length + budXL l := by
      intro l
      induction l with
      | nil => intro _; rw [varsML]; simp
      | cons x r ihr =>
        intro h
        have q1 := h x List.mem_cons_self
        have q2 := ihr (fun y hy => h y (List.mem_cons_of_mem _ hy))
        rw [varsML, budXL, List.length_append, List.length_cons]
        omega
    have := this l ih
    omega
theorem varsL_drop (l : List S32) (i : Nat) (h : i < l.length) : varsML (l.drop i) = varsM l[i] ++ varsML (l.drop (i + 1)) := by
  rw [List.drop_eq_getElem_cons h, varsML]
theorem budXL_drop (l : List S32) (i : Nat) (h : i < l.length) : budXL (l.drop i) = budX l[i] + budXL (l.drop (i + 1)) := by
  rw [List.drop_eq_getElem_cons h, budXL]
def lowB (c : Int) : Bool := decide (97 ≤ c) && decide (c ≤ 122)
def digB (c : Int) : Bool := decide (48 ≤ c) && decide (c ≤ 57)
def atomB (c : Int) : Bool := lowB c || (digB c || decide (c = 95))
def atomFrom (s : ByteArray) (i : Nat) : Bool := (List.range' i (s.size - i)).all fun j => lowB (bt s j) || (!decide (j = 0) && (digB (bt s j) || decide (bt s j = 95)))
def atomOkM (s : ByteArray) : Bool := atomFrom s 0 && (decide (1 ≤ (s.size : Int)) && decide ((s.size : Int) ≤ 20))
theorem atomFrom_end (s : ByteArray) (i : Nat) (h : s.size ≤ i) : atomFrom s i = true := by
  unfold atomFrom
  rw [Nat.sub_eq_zero_of_le h]; rfl
theorem atomFrom_step (s : ByteArray) (i : Nat) (h : i < s.size) : atomFrom s i = ((lowB (bt s i) || (!decide (i = 0) && (digB (bt s i) || decide (bt s i = 95)))) && atomFrom s (i + 1)) := by
  unfold atomFrom
  obtain ⟨n, hn⟩ : ∃ n, s.size - i = n + 1 := ⟨s.size - i - 1, by omega⟩
  rw [hn, show s.size - (i + 1) = n from by omega, List.range'_succ]
  simp [List.all_cons]
theorem wbt (s : ByteArray) (i : Int) : wrap64 (bt s i) = bt s i := by
  have := bt_range s i
  exact w64 _ (by omega) (by omega)
theorem ev_and {c : Bool} {A : Nat → Option Bool} {r : Bool} (e : Ev A r) : Ev (fun k => if c = true then A k else some false) (c && r) := by
  cases c with
  | false => exact ev_neg (by decide) (Ev.now _)
  | true => exact ev_pos rfl e
theorem ev_andP {c : Prop} [Decidable c] {A : Nat → Option Bool} {r : Bool} (e : Ev A r) : Ev (fun k => if c then A k else some false) (decide c && r) := by
  by_cases h : c
  · rw [decide_eq_true h]; exact ev_pos h e
  · rw [decide_eq_false h]; exact ev_neg h (Ev.now _)
theorem ev_nand {c : Bool} {A : Nat → Option Bool} {r : Bool} (e : Ev A r) : Ev (fun k => if c = true then some false else A k) (!c && r) := by
  cases c with
  | false => exact ev_neg (by decide) e
  | true => exact ev_pos rfl (Ev.now _)
theorem len0B (n : Nat) : ((n : Int) == 0) = decide (n = 0) := by by_cases h : n = 0 <;> simp [h]
theorem len2B (n : Nat) : ((n : Int) == 2) = decide (n = 2) := by
  by_cases h : n = 2
  · simp [h]
  · rw [decide_eq_false h, beq_eq_false_iff_ne]; omega
theorem len1B (n : Nat) : ((n : Int) == 1) = decide (n = 1) := by
  by_cases h : n = 1
  · simp [h]
  · rw [decide_eq_false h, beq_eq_false_iff_ne]; omega
def resL (l : List UInt8) : Bool := decide (l = [99, 97, 115, 101]) || (decide (l = [111, 102]) || decide (l = [101, 110, 100]))
def xatomM (s : ByteArray) : Bool := atomOkM s && !(resL s.toList)
def opL (l : List UInt8) : Bool := decide (l = [43]) || (decide (l = [45]) || (decide (l = [42]) || (decide (l = [61, 61]) || decide (l = [60]))))
theorem tl_inj (a b : ByteArray) : a.toList = b.toList ↔ a.data.toList = b.data.toList := by rw [Go.Lib.toList_data, Go.Lib.toList_data]
theorem tlx (s : ByteArray) (n : Nat) : (s.extract 0 n).data.toList = s.data.toList.take n := by
  simp [ByteArray.data_extract, Array.toList_extract, List.extract]
theorem size_len (s : ByteArray) : s.size = s.data.toList.length := by
  rw [Array.length_toList]; rfl
theorem bt0 (s : ByteArray) (c : UInt8) (l : List UInt8) (h : s.data.toList = c :: l) : (bt s 0).toNat.toUInt8 = c := by
  have h0 : 0 < s.size := by rw [size_len, h]; simp
  have := bt_at s 0 (by simpa using h0)
  rw [← this]
  have e : s[(0 : Int).toNat]'(by simpa using h0) = c := by
    have q : s.data.toList[0]'(by rw [h]; simp) = c := by simp [h]
    rw [← q]
    rfl
  rw [e]
  simp
def largeB (c : Int) : Bool := (decide (65 ≤ c) && decide (c ≤ 90)) || decide (c = 95)
def varP (s : ByteArray) (i : Nat) : Bool := largeB (bt s i) || (!decide (i = 0) && (lowB (bt s i) || digB (bt s i)))
def varQ (s : ByteArray) (i : Nat) : Bool := lowB (bt s i) || (largeB (bt s i) || digB (bt s i))
def in20 (s : ByteArray) : Bool := decide (1 ≤ (s.size : Int)) && decide ((s.size : Int) ≤ 20)
def varOkM (s : ByteArray) : Bool := allFrom (varP s) 0 s.size && in20 s
theorem allFrom_iff (p : Nat → Bool) (n : Nat) : allFrom p 0 n = true ↔ ∀ i, i < n → p i = true := by
  unfold allFrom
  rw [List.all_eq_true]
  constructor
  · intro h i hi
    exact h i (by rw [List.mem_range'_1]; omega)
  · intro h i hi
    rw [List.mem_range'_1] at hi
    exact h i (by omega)
theorem varOk_same (s : ByteArray) : (allFrom (varQ s) 0 s.size && (in20 s && largeB (bt s 0))) = varOkM s := by
  unfold varOkM
  cases hn : in20 s with
  | false => simp
  | true =>
    rw [Bool.true_and, Bool.and_true, Bool.eq_iff_iff, Bool.and_eq_true, allFrom_iff, allFrom_iff]
    unfold in20 at hn
    rw [Bool.and_eq_true, decide_eq_true_eq, decide_eq_true_eq] at hn
    constructor
    · rintro ⟨h, h0⟩ i hi
      have := h i hi
      unfold varQ at this
      unfold varP
      by_cases hz : i = 0
      · subst hz
        rw [show ((0 : Nat) : Int) = 0 from rfl, h0]; rfl
      · rw [decide_eq_false hz]
        revert this
        cases lowB (bt s i) <;> cases largeB (bt s i) <;> cases digB (bt s i) <;> simp
    · intro h
      refine ⟨fun i hi => ?_, ?_⟩
      · have := h i hi
        unfold varP at this
        unfold varQ
        revert this
        cases lowB (bt s i) <;> cases largeB (bt s i) <;> cases digB (bt s i) <;> simp
      · have := h 0 (by omega)
        unfold varP at this
        simpa using this
theorem all_loopB (L : Nat → Int → Option Bool) (p : Nat → Bool) (n : Nat) (b : Bool)
    (hstep : ∀ (i : Nat), i < n → ∀ r, (p i = true → Ev (fun k => L k ((i + 1 : Nat) : Int)) r) → (p i = false → r = false) → Ev (fun k => L k (i : Int)) r)
    (hend : Ev (fun k => L k (n : Int)) b) (d : Nat) : ∀ i : Nat, i + d = n → Ev (fun k => L k (i : Int)) (allFrom p i d && b) := by
  induction d with
  | zero =>
    intro i hi
    have e : i = n := by omega
    subst e
    exact ev_cast (by unfold allFrom; simp) hend
  | succ d ih =>
    intro i hi
    refine hstep i (by omega) _ (fun hp => ?_) (fun hp => ?_)
    · refine ev_cast ?_ (ih (i + 1) (by omega))
      unfold allFrom
      rw [List.range'_succ, List.all_cons, hp, Bool.true_and]
    · unfold allFrom
      rw [List.range'_succ, List.all_cons, hp, Bool.false_and, Bool.false_and]
def noT (s : ByteArray) : Bool := decide (s.toList = ([] : List UInt8))
def shOk (a b : Int) (s : ByteArray) (n : Nat) : Bool :=
  if a = 1 then (decide (0 ≤ b) && decide (b ≤ 1000000000000)) && (noT s && decide (n = 0))
  else decide (b = 0) && (
    if a = 2 then xatomM s && decide (n = 0)
    else if a = 3 then varOkM s && decide (n = 0)
    else if a = 4 ∨ a = 5 then noT s && decide (n ≤ 20)
    else if a = 6 then noT s && (decide (2 ≤ n) && decide (n ≤ 6))
    else if a = 7 then opL s.toList && decide (n = 2)
    else if a = 8 then xatomM s && decide (n ≤ 4)
    else if a = 9 then noT s && decide (n = 1)
    else false)
/-- What of an expression is right by itself: of a pattern (pat), or of any. -/
def shapeX (a b : Int) (s : ByteArray) (n m : Nat) (pat : Bool) : Bool :=
  if pat then decide (a ≤ 6) && (decide (m = 0) && shOk a b s n)
  else (shOk a b s n && !(decide (a = 3) && decide (s.toList = ([95] : List UInt8)))) && (decide (a = 9 ↔ 0 < m) && decide (m ≤ 6))
theorem sh_none {a b : Int} {s : ByteArray} {n : Nat} (h : ¬ (a = 1 ∨ a = 2 ∨ a = 3 ∨ a = 4 ∨ a = 5 ∨ a = 6 ∨ a = 7 ∨ a = 8 ∨ a = 9)) : shOk a b s n = false := by
  unfold shOk
  rw [if_neg (by omega), if_neg (by omega), if_neg (by omega), if_neg (by omega), if_neg (by omega), if_neg (by omega), if_neg (by omega), if_neg (by omega), Bool.and_false]
theorem dcast {p q : Prop} [Decidable p] [Decidable q] (h : p ↔ q) : decide p = decide q := decide_eq_decide.2 h
theorem sx1 (b : Int) (s : ByteArray) (n : Nat) (pat : Bool) : shapeX 1 b s n 0 pat = ((decide (0 ≤ b) && decide (b ≤ 1000000000000)) && (noT s && decide (n = 0))) := by
  unfold shapeX shOk; cases pat <;> simp
theorem sx2 (s : ByteArray) (n : Nat) (pat : Bool) : shapeX 2 0 s n 0 pat = (xatomM s && decide (n = 0)) := by
  unfold shapeX shOk; cases pat <;> simp
theorem sx3 (s : ByteArray) (n : Nat) (pat : Bool) : shapeX 3 0 s n 0 pat = (varOkM s && (decide (n = 0) && (pat || !decide (s.toList = ([95] : List UInt8))))) := by
  unfold shapeX shOk; cases pat <;> simp [Bool.and_assoc]
theorem sx4 (a : Int) (h : a = 4 ∨ a = 5) (s : ByteArray) (n : Nat) (pat : Bool) : shapeX a 0 s n 0 pat = (noT s && decide (n ≤ 20)) := by
  unfold shapeX shOk; rcases h with rfl | rfl <;> cases pat <;> simp
theorem sx6 (s : ByteArray) (n : Nat) (pat : Bool) : shapeX 6 0 s n 0 pat = (noT s && (decide (2 ≤ n) && decide (n ≤ 6))) := by
  unfold shapeX shOk; cases pat <;> simp
theorem sx7 (s : ByteArray) (n : Nat) (pat : Bool) : shapeX 7 0 s n 0 pat = (!pat && (opL s.toList && decide (n = 2))) := by
  unfold shapeX shOk; cases pat <;> simp
theorem sx8 (s : ByteArray) (n : Nat) (pat : Bool) : shapeX 8 0 s n 0 pat = (!pat && (xatomM s && decide (n ≤ 4))) := by
  unfold shapeX shOk; cases pat <;> simp
theorem sx9 (s : ByteArray) (n m : Nat) (pat : Bool) : shapeX 9 0 s n m pat = (!pat && (noT s && (decide (n = 1) && (decide (1 ≤ m) && decide (m ≤ 6))))) := by
  unfold shapeX shOk
  cases pat with
  | true => simp
  | false =>
    have e : decide ((9 : Int) = 9 ↔ 0 < m) = decide (1 ≤ m) := dcast (by omega)
    rw [if_neg (by decide), e]
    simp [Bool.and_assoc]
theorem sx0 {a b : Int} {s : ByteArray} {n m : Nat} {pat : Bool} (h : ¬ (a = 1 ∨ a = 2 ∨ a = 3 ∨ a = 4 ∨ a = 5 ∨ a = 6 ∨ a = 7 ∨ a = 8 ∨ a = 9)) : shapeX a b s n m pat = false := by
  unfold shapeX
  rw [sh_none h]
  cases pat <;> simp
/-- No text of a row twice. -/
def ND (l : List ByteArray) : Prop := (l.map ByteArray.toList).Nodup
instance (l : List ByteArray) : Decidable (ND l) := inferInstanceAs (Decidable (List.Nodup _))
theorem rdS (l : List ByteArray) (i : Nat) (h : i < l.length) : rdOf ByteArray.empty l (i : Int) = l[i] := by
  unfold rdOf
  simp [List.getD_eq_getElem?_getD, List.getElem?_eq_getElem h]
def hasM (l : List ByteArray) (s : ByteArray) : Bool := decide (s.toList ∈ l.map ByteArray.toList)
theorem ND_app (l : List ByteArray) (s : ByteArray) : ND (l ++ [s]) ↔ ND l ∧ ¬ s.toList ∈ l.map ByteArray.toList := by
  unfold ND
  rw [List.map_append, List.nodup_append]
  constructor
  · intro h
    exact ⟨h.1, fun hm => h.2.2 _ hm _ (by simp) rfl⟩
  · intro h
    refine ⟨h.1, by simp, fun a ha b hb e => ?_⟩
    simp at hb
    subst hb
    exact h.2 (e ▸ ha)
theorem ND_left {l m : List ByteArray} (h : ND (l ++ m)) : ND l := by
  unfold ND at *
  rw [List.map_append] at h
  exact (List.nodup_append.1 h).1
theorem ND_right {l m : List ByteArray} (h : ND (l ++ m)) : ND m := by
  unfold ND at *
  rw [List.map_append] at h
  exact (List.nodup_append.1 h).2.1
theorem ND_nil : ND [] := by unfold ND; exact List.nodup_nil
def stepB (b out : List ByteArray) (s : ByteArray) : List ByteArray := if hasM b s = true then out else if hasM out s = true then out else out ++ [s]
def addB (b out l : List ByteArray) : List ByteArray := l.foldl (stepB b) out
mutual
def freeM : S32 → List ByteArray
  | ⟨a, _, s, l, m⟩ => if a = 3 then [s] else freeMC (freeML [] l) m
def freeML : List ByteArray → List S32 → List ByteArray
  | acc, [] => acc
  | acc, x :: r => freeML (addB [] acc (freeM x)) r
def freec : List ByteArray → P46 S32 → List ByteArray
  | acc, ⟨p, x⟩ => addB (varsM p) acc (freeM x)
def freeMC : List ByteArray → List (P46 S32) → List ByteArray
  | acc, [] => acc
  | acc, c :: r => freeMC (freec acc c) r
end
theorem freec_eq (acc : List ByteArray) (c : P46 S32) : freec acc c = addB (varsM c.f0) acc (freeM c.f1) := by obtain ⟨p, x⟩ := c; rw [freec]
theorem stepB_len (b out : List ByteArray) (s : ByteArray) : (stepB b out s).length ≤ out.length + 1 := by
  unfold stepB
  split
  · omega
  split
  · omega
  · rw [List.length_append]; simp
theorem addB_len (b : List ByteArray) : ∀ (l out : List ByteArray), (addB b out l).length ≤ out.length + l.length
  | [], out => by simp [addB]
  | s :: r, out => by
    have h := addB_len b r (stepB b out s)
    have h2 := stepB_len b out s
    unfold addB at *
    rw [List.foldl_cons, List.length_cons]
    omega
theorem addB_cons (b out : List ByteArray) (s : ByteArray) (r : List ByteArray) : addB b out (s :: r) = addB b (stepB b out s) r := by unfold addB; rw [List.foldl_cons]
theorem addB_nil (b out : List ByteArray) : addB b out [] = out := rfl
theorem addB_app (b out l r : List ByteArray) : addB b out (l ++ r) = addB b (addB b out l) r := by unfold addB; rw [List.foldl_append]
theorem hasM_iff (l : List ByteArray) (s : ByteArray) : hasM l s = true ↔ ∃ x ∈ l, x.toList = s.toList := by
  unfold hasM
  rw [decide_eq_true_iff, List.mem_map]
theorem hasM_congr {l : List ByteArray} {s t : ByteArray} (h : s.toList = t.toList) : hasM l s = hasM l t := by unfold hasM; rw [h]
theorem hasM_app (l r : List ByteArray) (s : ByteArray) : hasM (l ++ r) s = (hasM l s || hasM r s) := by
  rw [Bool.eq_iff_iff, Bool.or_eq_true, hasM_iff, hasM_iff, hasM_iff]
  constructor
  · rintro ⟨x, hx, e⟩
    rcases List.mem_append.1 hx with h | h
    · exact .inl ⟨x, h, e⟩
    · exact .inr ⟨x, h, e⟩
  · rintro (⟨x, hx, e⟩ | ⟨x, hx, e⟩)
    · exact ⟨x, List.mem_append.2 (.inl hx), e⟩
    · exact ⟨x, List.mem_append.2 (.inr hx), e⟩
theorem hasM_one (s t : ByteArray) : hasM [s] t = decide (s.toList = t.toList) := by
  rw [Bool.eq_iff_iff, hasM_iff, decide_eq_true_iff]; simp
theorem hasM_step (b out : List ByteArray) (s t : ByteArray) : hasM (stepB b out s) t = (hasM out t || (decide (s.toList = t.toList) && !hasM b s)) := by
  unfold stepB
  by_cases h1 : hasM b s = true
  · rw [if_pos h1, h1]; simp
  · rw [if_neg h1]
    have h1' : hasM b s = false := by simpa using h1
    rw [h1']
    by_cases h2 : hasM out s = true
    · rw [if_pos h2]
      by_cases e : s.toList = t.toList
      · rw [← hasM_congr e, h2]; rfl
      · rw [decide_eq_false e]; simp
    · rw [if_neg h2, hasM_app, hasM_one]; simp
theorem hasM_add (b : List ByteArray) (t : ByteArray) : ∀ (l out : List ByteArray), hasM (addB b out l) t = (hasM out t || (hasM l t && !hasM b t))
  | [], out => by rw [addB_nil]; unfold hasM; simp
  | s :: r, out => by
    rw [addB_cons, hasM_add b t r, hasM_step]
    have e : hasM (s :: r) t = (decide (s.toList = t.toList) || hasM r t) := by
      have : s :: r = [s] ++ r := rfl
      rw [this, hasM_app, hasM_one]
    rw [e]
    by_cases h : s.toList = t.toList
    · rw [hasM_congr h, decide_eq_true h]
      cases hasM out t <;> cases hasM b t <;> cases hasM r t <;> rfl
    · rw [decide_eq_false h]
      cases hasM out t <;> cases hasM b t <;> cases hasM r t <;> rfl
/-- Adding what was added: the names that are but left out are left out of all. -/
theorem add_step (but bound out acc : List ByteArray) (s : ByteArray) : addB but out (stepB bound acc s) = stepB (but ++ bound) (addB but out acc) s := by
  unfold stepB
  rw [hasM_app]
  by_cases h1 : hasM bound s = true
  · rw [if_pos h1, h1]
    simp
  · have h1' : hasM bound s = false := by simpa using h1
    rw [if_neg h1, h1', Bool.or_false]
    by_cases h2 : hasM acc s = true
    · rw [if_pos h2]
      by_cases hb : hasM but s = true
      · rw [if_pos hb]
      · rw [if_neg hb, if_pos]
        have hb' : hasM but s = false := by simpa using hb
        rw [hasM_add, h2, hb']; simp
    · rw [if_neg h2, addB_app, addB_cons, addB_nil]
      rfl
theorem add_add (but bound : List ByteArray) : ∀ (l out acc : List ByteArray), addB but out (addB bound acc l) = addB (but ++ bound) (addB but out acc) l
  | [], out, acc => by rw [addB_nil, addB_nil]
  | s :: r, out, acc => by rw [addB_cons, add_add but bound r, add_step, ← addB_cons]
theorem ND_step {b out : List ByteArray} {s : ByteArray} (h : ND out) : ND (stepB b out s) := by
  unfold stepB
  split
  · exact h
  split
  · exact h
  · next h2 =>
    refine (ND_app out s).2 ⟨h, fun hm => h2 ?_⟩
    unfold hasM
    exact decide_eq_true hm
theorem ND_add {b : List ByteArray} : ∀ {l out : List ByteArray}, ND out → ND (addB b out l)
  | [], out, h => h
  | s :: r, out, h => by rw [addB_cons]; exact ND_add (ND_step h)
theorem add_new : ∀ (l out : List ByteArray), ND (out ++ l) → addB [] out l = out ++ l
  | [], out, _ => by rw [addB_nil, List.append_nil]
  | s :: r, out, h => by
    have e : out ++ s :: r = (out ++ [s]) ++ r := by simp
    rw [e] at h
    have h2 := (ND_app out s).1 (ND_left h)
    have h3 : stepB [] out s = out ++ [s] := by
      unfold stepB
      rw [if_neg (by unfold hasM; simp), if_neg]
      unfold hasM
      rw [decide_eq_true_iff]
      exact h2.2
    rw [addB_cons, h3, add_new r _ h, e]
theorem ND_free : ∀ x, ND (freeM x) := by
  refine indE ?_
  intro a b s l m _ _
  have hL : ∀ (l : List S32) (acc : List ByteArray), ND acc → ND (freeML acc l) := by
    intro l
    induction l with
    | nil => intro acc h; rw [freeML]; exact h
    | cons x r ih => intro acc h; rw [freeML]; exact ih _ (ND_add h)
  have hC : ∀ (m : List (P46 S32)) (acc : List ByteArray), ND acc → ND (freeMC acc m) := by
    intro m
    induction m with
    | nil => intro acc h; rw [freeMC]; exact h
    | cons x r ih => intro acc h; rw [freeMC]; exact ih _ (by rw [freec_eq]; exact ND_add h)
  rw [freeM]
  split
  · unfold ND; simp
  · exact hC m _ (hL l _ ND_nil)
theorem free_len : ∀ x, (freeM x).length ≤ 1 + budX x := by
  refine indE ?_
  intro a b s l m ihl ihm
  rw [freeM, budX]
  split
  · simp
  · have hL : ∀ (l : List S32) (acc : List ByteArray), (∀ y ∈ l, (freeM y).length ≤ 1 + budX y) → (freeML acc l).length ≤ acc.length + (l.length + budXL l) := by
      intro l
      induction l with
      | nil => intro acc _; rw [freeML]; simp
      | cons x r ih =>
        intro acc h
        have q1 := h x List.mem_cons_self
        have q2 := ih (addB [] acc (freeM x)) (fun y hy => h y (List.mem_cons_of_mem _ hy))
        have q3 := addB_len [] (freeM x) acc
        rw [freeML, budXL, List.length_cons]
        omega
    have hC : ∀ (m : List (P46 S32)) (acc : List ByteArray), (∀ c ∈ m, (freeM c.f1).length ≤ 1 + budX c.f1) → (freeMC acc m).length ≤ acc.length + (m.length + budXC m) := by
      intro m
      induction m with
      | nil => intro acc _; rw [freeMC]; simp
      | cons c r ih =>
        intro acc h
        have q1 := h c List.mem_cons_self
        have q2 := ih (freec acc c) (fun y hy => h y (List.mem_cons_of_mem _ hy))
        have q3 := addB_len (varsM c.f0) (freeM c.f1) acc
        rw [freec_eq] at q2
        have q4 : budX c.f1 ≤ budXc c := by obtain ⟨p, x⟩ := c; rw [budXc]; show budX x ≤ _; omega
        rw [freeMC, budXC, List.length_cons, freec_eq]
        omega
    have q1 := hL l [] ihl
    have q2 := hC m (freeML [] l) (fun c hc => (ihm c hc).2)
    simp at q1
    omega
theorem spec_Vars_loop (a b : Int) (s : ByteArray) (l : List S32) (m : List (P46 S32)) (hl : (l.length : Int) ≤ 4194304) (h : ∀ y ∈ l, Ev (fun k => spec_VarsOf.f k y.f0 y.f1 y.f2 y.f3 y.f4) (varsM y)) (d : Nat) :
    ∀ (i : Nat) (acc : List ByteArray), i + d = l.length → acc.length + (d + budXL (l.drop i)) ≤ 5000000 → Ev (fun k => spec_VarsOf.l0 k acc i a b s l m) (acc ++ varsML (l.drop i)) := by
  induction d with
  | zero =>
    intro i acc hi hb
    refine Ev.step (f := fun _ => some acc) (fun k => ?_) (ev_cast ?_ (Ev.now _))
    · simp only [spec_VarsOf.l0]; rw [if_neg (by omega)]
    · rw [List.drop_eq_nil_of_le (by omega), varsML, List.append_nil]
  | succ d ih =>
    intro i acc hi hb
    have hlt : i < l.length := by omega
    have hc := budXL_drop l i hlt
    have hv := vars_len l[i]
    refine Ev.step (f := fun k => (spec_VarsOf.f k l[i].f0 l[i].f1 l[i].f2 l[i].f3 l[i].f4).bind fun t200 => (if acc.length + t200.length < 8796093022208 then (spec_VarsOf.l0 k (acc ++ t200) (wrap64 ((i : Int) + 1)) a b s l m) else (none))) (fun k => ?_) (Ev.bind (h l[i] (List.getElem_mem hlt)) (ev_pos (by omega) ?_))
    · simp only [spec_VarsOf.l0]
      rw [if_pos (by omega), if_pos (by omega), rdE l i hlt]
    · rw [w64 _ (by omega) (by omega), varsL_drop l i hlt, ← List.append_assoc]
      exact ih (i + 1) _ (by omega) (by rw [List.length_append]; omega)
theorem spec_Vars_all : ∀ x, (budX x : Int) ≤ 4194304 → Ev (fun k => spec_VarsOf.f k x.f0 x.f1 x.f2 x.f3 x.f4) (varsM x) := by
  refine indE ?_
  intro a b s l m ih _ hb
  rw [budX] at hb
  rw [varsM]
  refine Ev.step (f := fun k => (some (([] : List ByteArray) : List ByteArray)).bind fun y193 => (if a = 3 then (if s.toList = ([95] : List UInt8) then (some y193) else (if y193.length < 8796093022208 then (some (y193 ++ [s])) else (none))) else (spec_VarsOf.l0 k y193 0 a b s l m))) (fun k => ?_) (Ev.bind (Ev.now _) ?_)
  · simp only [spec_VarsOf.f]
  by_cases h3 : a = 3
  · rw [if_pos h3]
    refine ev_pos h3 ?_
    by_cases h95 : s.toList = ([95] : List UInt8)
    · exact ev_cast (if_pos h95).symm (ev_pos h95 (Ev.now _))
    · exact ev_cast (if_neg h95).symm (ev_neg h95 (ev_pos (by simp) (Ev.now _)))
  · rw [if_neg h3]
    refine ev_neg h3 ?_
    have e := spec_Vars_loop a b s l m (by omega) (fun y hy => ih y hy (by have := budXL_mem l y hy; omega)) l.length 0 [] (by omega) (by rw [List.drop_zero]; simp; omega)
    rw [List.drop_zero, List.nil_append] at e
    exact e
theorem spec_l4Has_l (l : List ByteArray) (hl : (l.length : Int) ≤ 8388608) (s : ByteArray) (d : Nat) : ∀ (i : Nat), i + d = l.length → Ev (fun k => spec_l4Has.l0 k l s i) (hasM (l.drop i) s) := by
  induction d with
  | zero =>
    intro i hi
    refine Ev.step (f := fun _ => some false) (fun k => ?_) (ev_cast ?_ (Ev.now _))
    · simp only [spec_l4Has.l0]; rw [if_neg (by omega)]
    · rw [List.drop_eq_nil_of_le (by omega)]; rfl
  | succ d ih =>
    intro i hi
    have hlt : i < l.length := by omega
    refine Ev.step (f := fun k => (if l[i].toList = s.toList then (some true) else (spec_l4Has.l0 k l s (wrap64 ((i : Int) + 1))))) (fun k => ?_) ?_
    · simp only [spec_l4Has.l0]; rw [if_pos (by omega), if_pos (by omega), rdS l i hlt]
    · rw [w64 _ (by omega) (by omega)]
      have hd : l.drop i = l[i] :: l.drop (i + 1) := List.drop_eq_getElem_cons hlt
      by_cases h : l[i].toList = s.toList
      · refine ev_pos h (ev_cast ?_ (Ev.now _))
        unfold hasM
        refine (decide_eq_true ?_).symm
        rw [hd, List.map_cons, h]
        exact List.mem_cons_self
      · refine ev_neg h (ev_cast ?_ (ih (i + 1) (by omega)))
        unfold hasM
        rw [hd, List.map_cons]
        refine dcast ?_
        rw [List.mem_cons]
        exact ⟨fun h3 => .inr h3, fun h3 => h3.elim (fun e => absurd e.symm h) id⟩
theorem spec_l4Has_ev (l : List ByteArray) (hl : (l.length : Int) ≤ 8388608) (s : ByteArray) : Ev (fun k => spec_l4Has.f k l s) (hasM l s) := by
  unfold spec_l4Has.f
  exact spec_l4Has_l l hl s l.length 0 (by omega)
mutual
def freeS : List ByteArray → List ByteArray → S32 → List ByteArray
  | out, but, ⟨a, _, s, l, m⟩ => if a = 3 then stepB but out s else freeSC (freeSL out but l) but m
def freeSL : List ByteArray → List ByteArray → List S32 → List ByteArray
  | out, _, [] => out
  | out, but, x :: r => freeSL (freeS out but x) but r
def freesc : List ByteArray → List ByteArray → P46 S32 → List ByteArray
  | out, but, ⟨p, x⟩ => freeS out (but ++ varsM p) x
def freeSC : List ByteArray → List ByteArray → List (P46 S32) → List ByteArray
  | out, _, [] => out
  | out, but, c :: r => freeSC (freesc out but c) but r
end
theorem freesc_eq (out but : List ByteArray) (c : P46 S32) : freesc out but c = freeS out (but ++ varsM c.f0) c.f1 := by obtain ⟨p, x⟩ := c; rw [freesc]
theorem freeS_eq : ∀ x, ∀ out but, freeS out but x = addB but out (freeM x) := by
  refine indE ?_
  intro a b s l m ihl ihm out but
  have hL : ∀ (l : List S32) (out acc : List ByteArray), (∀ y ∈ l, ∀ out but, freeS out but y = addB but out (freeM y)) → freeSL (addB but out acc) but l = addB but out (freeML acc l) := by
    intro l
    induction l with
    | nil => intro out acc _; rw [freeSL, freeML]
    | cons x r ih =>
      intro out acc h
      have := ih out (addB [] acc (freeM x)) (fun y hy => h y (List.mem_cons_of_mem _ hy))
      rw [freeSL, freeML, h x List.mem_cons_self, ← this, add_add, List.append_nil]
  have hC : ∀ (m : List (P46 S32)) (out acc : List ByteArray), (∀ c ∈ m, ∀ out but, freeS out but c.f1 = addB but out (freeM c.f1)) → freeSC (addB but out acc) but m = addB but out (freeMC acc m) := by
    intro m
    induction m with
    | nil => intro out acc _; rw [freeSC, freeMC]
    | cons c r ih =>
      intro out acc h
      have := ih out (freec acc c) (fun y hy => h y (List.mem_cons_of_mem _ hy))
      rw [freeSC, freeMC, freesc_eq, h c List.mem_cons_self, ← this, freec_eq, add_add]
  rw [freeS, freeM]
  split
  · rw [addB_cons, addB_nil]
  · have q1 := hL l out [] ihl
    rw [addB_nil] at q1
    rw [q1]
    exact hC m out (freeML [] l) (fun c hc => (ihm c hc).2)
theorem freeS_len (out but : List ByteArray) (x : S32) : (freeS out but x).length ≤ out.length + (1 + budX x) := by
  rw [freeS_eq]
  have := addB_len but (freeM x) out
  have := free_len x
  omega
theorem sFree_l1 (a b : Int) (s : ByteArray) (l : List S32) (m : List (P46 S32)) (hm : (m.length : Int) + budXC m ≤ 4194304) (but : List ByteArray) (hb : but.length + 2 * (1 + m.length + budXC m) ≤ 8000000)
    (h : ∀ c : P46 S32, c ∈ m → ∀ (out but : List ByteArray), out.length + (1 + budX c.f1) ≤ 5000000 → but.length + 2 * (1 + budX c.f1) ≤ 8000000 → Ev (fun k => spec_l4Free.f k out but c.f1.f0 c.f1.f1 c.f1.f2 c.f1.f3 c.f1.f4) (freeS out but c.f1)) (n : Nat) :
    ∀ (i : Nat) (out : List ByteArray), i + n = m.length → out.length + (n + budXC (m.drop i)) ≤ 5000000 → Ev (fun k => spec_l4Free.l1 k out but i a b s l m) (freeSC out but (m.drop i)) := by
  induction n with
  | zero =>
    intro i out hi ho
    rw [List.drop_eq_nil_of_le (by omega), freeSC]
    refine Ev.step (f := fun _ => some out) (fun k => ?_) (Ev.now _)
    simp only [spec_l4Free.l1]; rw [if_neg (by omega)]
  | succ n ih =>
    intro i out hi ho
    have hlt : i < m.length := by omega
    have hd : m.drop i = m[i] :: m.drop (i + 1) := List.drop_eq_getElem_cons hlt
    have hmem := budXC_mem m m[i] (List.getElem_mem hlt)
    have hv := vars_len m[i].f0
    have ev := spec_Vars_all m[i].f0 (by omega)
    have hrd : rd_T46 m (i : Int) = m[i] := rdC m i hlt
    have hbud : budXC (m.drop i) = budXc m[i] + budXC (m.drop (i + 1)) := by rw [hd, budXC]
    have hbc : budXc m[i] = budX m[i].f0 + budX m[i].f1 := by obtain ⟨p, x⟩ := m[i]; rw [budXc]
    have hsum : m.length + budXC m ≥ 1 + (budX m[i].f0 + budX m[i].f1) := by omega
    have ec := h m[i] (List.getElem_mem hlt) out (but ++ varsM m[i].f0) (by omega) (by rw [List.length_append]; omega)
    have hl := freeS_len out (but ++ varsM m[i].f0) m[i].f1
    have hn := ih (i + 1) (freesc out but m[i]) (by omega) (by rw [freesc_eq]; omega)
    rw [hd, freeSC]
    rw [freesc_eq] at hn ⊢
    generalize m[i] = c at *
    refine Ev.step (f := fun k => (some (([] : List ByteArray) : List ByteArray)).bind fun y136 => (if y136.length + but.length < 8796093022208 then ((some (y136 ++ but : List ByteArray)).bind fun y139 => (if 0 ≤ (i : Int) then ((spec_VarsOf.f k c.f0.f0 c.f0.f1 c.f0.f2 c.f0.f3 c.f0.f4).bind fun t143 => (if y139.length + t143.length < 8796093022208 then ((spec_l4Free.f k out (y139 ++ t143) c.f1.f0 c.f1.f1 c.f1.f2 c.f1.f3 c.f1.f4).bind fun t150 => (spec_l4Free.l1 k t150 but (wrap64 ((i : Int) + 1)) a b s l m)) else (none))) else (none))) else (none))) (fun k => ?_) (Ev.bind (Ev.now _) (ev_pos (by simp; omega) (Ev.bind (Ev.now _) (ev_pos (by omega) (Ev.bind ev (ev_pos (by simp; omega) (Ev.bind (by rw [List.nil_append]; exact ec) ?_)))))))
    · simp only [spec_l4Free.l1]; rw [if_pos (by omega), hrd]
    · rw [w64 _ (by omega) (by omega)]
      exact hn
theorem sFree_l0 (a b : Int) (s : ByteArray) (l : List S32) (m : List (P46 S32)) (hl : (l.length : Int) ≤ 4194304) (but : List ByteArray) (R : List ByteArray → List ByteArray) (N0 : Nat)
    (h : ∀ x ∈ l, ∀ (out : List ByteArray), out.length + (1 + budX x) ≤ 5000000 → Ev (fun k => spec_l4Free.f k out but x.f0 x.f1 x.f2 x.f3 x.f4) (freeS out but x))
    (hend : ∀ out : List ByteArray, out.length ≤ N0 → Ev (fun k => spec_l4Free.l1 k out but 0 a b s l m) (R out)) (hN : N0 ≤ 5000000) (n : Nat) :
    ∀ (i : Nat) (out : List ByteArray), i + n = l.length → out.length + (n + budXL (l.drop i)) ≤ N0 → Ev (fun k => spec_l4Free.l0 k out but i a b s l m) (R (freeSL out but (l.drop i))) := by
  induction n with
  | zero =>
    intro i out hi ho
    rw [List.drop_eq_nil_of_le (by omega), freeSL]
    refine Ev.step (fun k => ?_) (hend out (by omega))
    simp only [spec_l4Free.l0]; rw [if_neg (by omega)]
  | succ n ih =>
    intro i out hi ho
    have hlt : i < l.length := by omega
    have hd : l.drop i = l[i] :: l.drop (i + 1) := List.drop_eq_getElem_cons hlt
    have hrd := rdE l i hlt
    have hbud := budXL_drop l i hlt
    have ex := h l[i] (List.getElem_mem hlt) out (by omega)
    have hlen := freeS_len out but l[i]
    have hn := ih (i + 1) (freeS out but l[i]) (by omega) (by omega)
    rw [hd, freeSL]
    generalize l[i] = x at *
    refine Ev.step (f := fun k => (spec_l4Free.f k out but x.f0 x.f1 x.f2 x.f3 x.f4).bind fun t133 => (spec_l4Free.l0 k t133 but (wrap64 ((i : Int) + 1)) a b s l m)) (fun k => ?_) (Ev.bind ex ?_)
    · simp only [spec_l4Free.l0]; rw [if_pos (by omega), if_pos (by omega), hrd]
    · rw [w64 _ (by omega) (by omega)]
      exact hn
theorem sFree_all : ∀ x, (budX x : Int) ≤ 2097152 → ∀ (out but : List ByteArray), out.length + (1 + budX x) ≤ 5000000 → but.length + 2 * (1 + budX x) ≤ 8000000 → Ev (fun k => spec_l4Free.f k out but x.f0 x.f1 x.f2 x.f3 x.f4) (freeS out but x) := by
  refine indE ?_
  intro a b s l m ihl ihm hb out but ho hbut
  rw [budX] at hb ho hbut
  show Ev (fun k => spec_l4Free.f k out but a b s l m) _
  rw [freeS]
  by_cases h3 : a = 3
  · rw [if_pos h3]
    unfold stepB
    refine Ev.step (f := fun k => (spec_l4Has.f k but s).bind fun t127 => (if t127 = true then (some out) else ((spec_l4Has.f k out s).bind fun t128 => (if t128 = true then (some out) else (if out.length < 8796093022208 then (some (out ++ [s])) else (none)))))) (fun k => by simp only [spec_l4Free.f]; rw [if_pos h3]) (Ev.bind (spec_l4Has_ev but (by omega) s) ?_)
    by_cases c1 : hasM but s = true
    · exact ev_cast (if_pos c1).symm (ev_pos c1 (Ev.now _))
    · refine ev_cast (if_neg c1).symm (ev_neg c1 (Ev.bind (spec_l4Has_ev out (by omega) s) ?_))
      by_cases c2 : hasM out s = true
      · exact ev_cast (if_pos c2).symm (ev_pos c2 (Ev.now _))
      · exact ev_cast (if_neg c2).symm (ev_neg c2 (ev_pos (by omega) (Ev.now _)))
  · rw [if_neg h3]
    refine Ev.step (f := fun k => spec_l4Free.l0 k out but 0 a b s l m) (fun k => by simp only [spec_l4Free.f]; rw [if_neg h3]) ?_
    have := sFree_l0 a b s l m (by omega) but (fun o => freeSC o but m) (out.length + (l.length + budXL l)) (fun x hx o h => ihl x hx (by have := budXL_mem l x hx; omega) o but h (by have := budXL_mem l x hx; omega)) (fun o h => ?_) (by omega) l.length 0 out (by omega) (by rw [List.drop_zero]; omega)
    · rw [List.drop_zero] at this
      exact this
    · have := sFree_l1 a b s l m (by omega) but (by omega) (fun c hc o b2 h1 h2 => (ihm c hc).2 (by have := budXC_mem m c hc; omega) o b2 h1 h2) m.length 0 o (by omega) (by rw [List.drop_zero]; omega)
      rw [List.drop_zero] at this
      exact this
theorem spec_FreeOf_ev (x : S32) (hb : (budX x : Int) ≤ 2097152) : Ev (fun k => spec_FreeOf.f k x.f0 x.f1 x.f2 x.f3 x.f4) (freeM x) := by
  unfold spec_FreeOf.f
  refine Ev.bind (sFree_all x hb [] [] (by simp; omega) (by simp; omega)) (ev_cast ?_ (Ev.now _))
  rw [freeS_eq, add_new _ _ (by rw [List.nil_append]; exact ND_free x), List.nil_append]
theorem impl_Vars_loop (l : List S32) (hl : (l.length : Int) ≤ 4194304) (h : ∀ y ∈ l, Ev (fun k => impl_VarsOf.f k y.f0 y.f1 y.f2 y.f3 y.f4) (varsM y)) (d : Nat) :
    ∀ (i : Nat) (acc : List ByteArray), i + d = l.length → acc.length + (d + budXL (l.drop i)) ≤ 5000000 → Ev (fun k => impl_VarsOf.l0 k acc l (l.length : Int) i) (acc ++ varsML (l.drop i)) := by
  induction d with
  | zero =>
    intro i acc hi hb
    refine Ev.step (f := fun _ => some acc) (fun k => ?_) (ev_cast ?_ (Ev.now _))
    · simp only [impl_VarsOf.l0]; rw [if_neg (by omega)]
    · rw [List.drop_eq_nil_of_le (by omega), varsML, List.append_nil]
  | succ d ih =>
    intro i acc hi hb
    have hlt : i < l.length := by omega
    have hc := budXL_drop l i hlt
    have hv := vars_len l[i]
    refine Ev.step (f := fun k => (impl_VarsOf.f k l[i].f0 l[i].f1 l[i].f2 l[i].f3 l[i].f4).bind fun t200 => (if acc.length + t200.length < 8796093022208 then (impl_VarsOf.l0 k (acc ++ t200) l (l.length : Int) (wrap64 ((i : Int) + 1))) else (none))) (fun k => ?_) (Ev.bind (h l[i] (List.getElem_mem hlt)) (ev_pos (by omega) ?_))
    · simp only [impl_VarsOf.l0]
      rw [if_pos (by omega), if_pos (by omega), if_pos (by omega), rdE l i hlt]
    · rw [w64 _ (by omega) (by omega), varsL_drop l i hlt, ← List.append_assoc]
      exact ih (i + 1) _ (by omega) (by rw [List.length_append]; omega)
theorem impl_Vars_all : ∀ x, (budX x : Int) ≤ 4194304 → Ev (fun k => impl_VarsOf.f k x.f0 x.f1 x.f2 x.f3 x.f4) (varsM x) := by
  refine indE ?_
  intro a b s l m ih _ hb
  rw [budX] at hb
  rw [varsM]
  by_cases h3 : a = 3
  · rw [if_pos h3]
    refine Ev.step (f := fun k => impl_VarsOf.j0 k (s.toList != ([95] : List UInt8)) a b s l m) (fun k => by simp only [impl_VarsOf.f]; rw [if_pos h3]) ?_
    by_cases h95 : s.toList = ([95] : List UInt8)
    · rw [if_pos h95]
      refine Ev.step (f := fun _ => some []) (fun k => ?_) (Ev.now _)
      simp only [impl_VarsOf.j0]; rw [if_neg (by simp [h95]), if_pos h3]
    · rw [if_neg h95]
      refine Ev.step (f := fun _ => some [s]) (fun k => ?_) (Ev.now _)
      simp only [impl_VarsOf.j0]; rw [if_pos (by simp [h95])]
  · rw [if_neg h3]
    have e := impl_Vars_loop l (by omega) (fun y hy => ih y hy (by have := budXL_mem l y hy; omega)) l.length 0 [] (by omega) (by rw [List.drop_zero]; simp; omega)
    rw [List.drop_zero, List.nil_append] at e
    refine Ev.step (f := fun k => impl_VarsOf.j0 k false a b s l m) (fun k => by simp only [impl_VarsOf.f]; rw [if_neg h3]) (Ev.step (f := fun k => impl_VarsOf.l0 k ([] : List ByteArray) l (l.length : Int) 0) (fun k => ?_) e)
    simp only [impl_VarsOf.j0]; rw [if_neg (by decide), if_neg h3]
theorem sIndex_l (l : List ByteArray) (hl : (l.length : Int) ≤ 8388608) (s : ByteArray) (d : Nat) : ∀ (i : Nat), i + d = l.length → ∃ r, Ev (fun k => slices_Index_string_string.l0 k l s (l.length : Int) i) r ∧ decide (r ≥ 0) = hasM (l.drop i) s := by
  induction d with
  | zero =>
    intro i hi
    refine ⟨-1, Ev.step (f := fun _ => some (-1)) (fun k => ?_) (Ev.now _), ?_⟩
    · simp only [slices_Index_string_string.l0]; rw [if_neg (by omega)]
    · rw [List.drop_eq_nil_of_le (by omega)]; rfl
  | succ d ih =>
    intro i hi
    have hlt : i < l.length := by omega
    have hd : l.drop i = l[i] :: l.drop (i + 1) := List.drop_eq_getElem_cons hlt
    have st : ∀ r, Ev (fun k => (if s.toList = l[i].toList then (some (i : Int)) else (slices_Index_string_string.l0 k l s (l.length : Int) ((i + 1 : Nat) : Int)))) r → Ev (fun k => slices_Index_string_string.l0 k l s (l.length : Int) i) r := fun r er => Ev.step (fun k => by
      simp only [slices_Index_string_string.l0]
      have e1 : (i : Int) + 1 = ((i + 1 : Nat) : Int) := by omega
      rw [if_pos (by omega), if_pos (by omega), if_pos (by omega), rdS l i hlt, w64 ((i : Int) + 1) (by omega) (by omega), e1]) er
    by_cases h : s.toList = l[i].toList
    · refine ⟨(i : Int), st _ (ev_pos h (Ev.now _)), ?_⟩
      unfold hasM
      rw [hd, List.map_cons, h, decide_eq_true (show (i : Int) ≥ 0 by omega)]
      exact (decide_eq_true List.mem_cons_self).symm
    · obtain ⟨r, e, hr⟩ := ih (i + 1) (by omega)
      refine ⟨r, st _ (ev_neg h e), ?_⟩
      rw [hr]
      unfold hasM
      rw [hd, List.map_cons]
      refine dcast ?_
      rw [List.mem_cons]
      exact ⟨fun h3 => .inr h3, fun h3 => h3.elim (fun e => absurd e h) id⟩
theorem sContains_ev (l : List ByteArray) (hl : (l.length : Int) ≤ 8388608) (s : ByteArray) : Ev (fun k => slices_Contains_string_string.f k l s) (hasM l s) := by
  obtain ⟨r, e, hr⟩ := sIndex_l l hl s l.length 0 (by omega)
  unfold slices_Contains_string_string.f
  rw [List.drop_zero] at hr
  unfold slices_Index_string_string.f
  exact ev_cast hr (Ev.bind e (Ev.now _))
theorem addOnce_l (b : List ByteArray) (hb : (b.length : Int) ≤ 5000000) (d : Nat) : ∀ (i : Nat) (out : List ByteArray), i + d = b.length → out.length + d ≤ 8000000 → Ev (fun k => impl_addOnce.l0 k out b (b.length : Int) i) (addB [] out (b.drop i)) := by
  induction d with
  | zero =>
    intro i out hi ho
    rw [List.drop_eq_nil_of_le (by omega), addB_nil]
    refine Ev.step (f := fun _ => some out) (fun k => ?_) (Ev.now _)
    simp only [impl_addOnce.l0]; rw [if_neg (by omega)]
  | succ d ih =>
    intro i out hi ho
    have hlt : i < b.length := by omega
    have hd : b.drop i = b[i] :: b.drop (i + 1) := List.drop_eq_getElem_cons hlt
    have hrd := rdS b i hlt
    have ec := sContains_ev out (by omega) b[i]
    have hs := stepB_len [] out b[i]
    have hn := ih (i + 1) (stepB [] out b[i]) (by omega) (by omega)
    have e0 : ∀ s, stepB [] out s = if hasM out s = true then out else out ++ [s] := fun s => by unfold stepB; rw [if_neg (by unfold hasM; simp)]
    rw [hd, addB_cons]
    rw [e0] at hn ⊢
    generalize b[i] = s at *
    refine Ev.step (f := fun k => (slices_Contains_string_string.f k out s).bind fun t233 => (if t233 = true then (impl_addOnce.l0 k out b (b.length : Int) (wrap64 ((i : Int) + 1))) else (if out.length < 8796093022208 then (impl_addOnce.l0 k (out ++ [s]) b (b.length : Int) (wrap64 ((i : Int) + 1))) else (none)))) (fun k => ?_) (Ev.bind ec ?_)
    · simp only [impl_addOnce.l0]; rw [if_pos (by omega), if_pos (by omega), if_pos (by omega), hrd]
    · rw [w64 _ (by omega) (by omega)]
      by_cases c : hasM out s = true
      · rw [if_pos c] at hn ⊢
        exact ev_pos c hn
      · rw [if_neg c] at hn ⊢
        exact ev_neg c (ev_pos (by omega) hn)
theorem addOnce_ev (out b : List ByteArray) (ho : out.length ≤ 3000000) (hb : b.length ≤ 3000000) : Ev (fun k => impl_addOnce.f k out b) (addB [] out b) := by
  unfold impl_addOnce.f
  have := addOnce_l b (by omega) b.length 0 out (by omega) (by omega)
  rw [List.drop_zero] at this
  exact this
theorem iFree_l2 (bound : List ByteArray) (m : List (P46 S32)) (i : Nat) (g : List ByteArray) (hg : g.length ≤ 2500000) (hbo : bound.length ≤ 5000000) (R : List ByteArray → List ByteArray) (N0 : Nat) (hN : N0 ≤ 2500000)
    (hend : ∀ out : List ByteArray, out.length ≤ N0 → Ev (fun k => impl_FreeOf.l1 k out m (m.length : Int) (wrap64 ((i : Int) + 1))) (R out)) (d : Nat) :
    ∀ (j : Nat) (out : List ByteArray), j + d = g.length → out.length + d ≤ N0 → Ev (fun k => impl_FreeOf.l2 k out bound m (m.length : Int) i g (g.length : Int) j) (R (addB bound out (g.drop j))) := by
  induction d with
  | zero =>
    intro j out hj ho
    rw [List.drop_eq_nil_of_le (by omega), addB_nil]
    refine Ev.step (fun k => ?_) (hend out (by omega))
    simp only [impl_FreeOf.l2]; rw [if_neg (by omega)]
  | succ d ih =>
    intro j out hj ho
    have hlt : j < g.length := by omega
    have hd : g.drop j = g[j] :: g.drop (j + 1) := List.drop_eq_getElem_cons hlt
    have hrd := rdS g j hlt
    have ec := sContains_ev bound (by omega) g[j]
    have ea := addOnce_ev out [g[j]] (by omega) (by simp)
    have hs := stepB_len bound out g[j]
    have hn := ih (j + 1) (stepB bound out g[j]) (by omega) (by omega)
    rw [hd, addB_cons]
    generalize g[j] = s at *
    refine Ev.step (f := fun k => (slices_Contains_string_string.f k bound s).bind fun t270 => (if t270 = true then (impl_FreeOf.l2 k out bound m (m.length : Int) i g (g.length : Int) (wrap64 ((j : Int) + 1))) else ((impl_addOnce.f k out (([s] : List ByteArray))).bind fun t274 => (impl_FreeOf.l2 k t274 bound m (m.length : Int) i g (g.length : Int) (wrap64 ((j : Int) + 1)))))) (fun k => ?_) (Ev.bind ec ?_)
    · simp only [impl_FreeOf.l2]; rw [if_pos (by omega), if_pos (by omega), if_pos (by omega), hrd]
    · rw [w64 ((j : Int) + 1) (by omega) (by omega)]
      by_cases c : hasM bound s = true
      · have e : stepB bound out s = out := by unfold stepB; rw [if_pos c]
        rw [e] at hn ⊢
        exact ev_pos c hn
      · refine ev_neg c (Ev.bind ea ?_)
        have e : addB [] out [s] = stepB bound out s := by
          rw [addB_cons, addB_nil]; unfold stepB
          rw [if_neg c, if_neg (by unfold hasM; simp)]
        rw [e]
        exact hn
theorem iFree_l1 (m : List (P46 S32)) (hm : (m.length : Int) + budXC m ≤ 2097152) (h : ∀ c : P46 S32, c ∈ m → Ev (fun k => impl_FreeOf.f k c.f1.f0 c.f1.f1 c.f1.f2 c.f1.f3 c.f1.f4) (freeM c.f1)) (n : Nat) :
    ∀ (i : Nat) (out : List ByteArray), i + n = m.length → out.length + (n + budXC (m.drop i)) ≤ 2500000 → Ev (fun k => impl_FreeOf.l1 k out m (m.length : Int) i) (freeMC out (m.drop i)) := by
  induction n with
  | zero =>
    intro i out hi ho
    rw [List.drop_eq_nil_of_le (by omega), freeMC]
    refine Ev.step (f := fun _ => some out) (fun k => ?_) (Ev.now _)
    simp only [impl_FreeOf.l1]; rw [if_neg (by omega)]
  | succ n ih =>
    intro i out hi ho
    have hlt : i < m.length := by omega
    have hd : m.drop i = m[i] :: m.drop (i + 1) := List.drop_eq_getElem_cons hlt
    have hmem := budXC_mem m m[i] (List.getElem_mem hlt)
    have hv := vars_len m[i].f0
    have hf := free_len m[i].f1
    have ev := impl_Vars_all m[i].f0 (by omega)
    have hrd : rd_T46 m (i : Int) = m[i] := rdC m i hlt
    have hbud : budXC (m.drop i) = budXc m[i] + budXC (m.drop (i + 1)) := by rw [hd, budXC]
    have hbc : budXc m[i] = budX m[i].f0 + budX m[i].f1 := by obtain ⟨p, x⟩ := m[i]; rw [budXc]
    have ex := h m[i] (List.getElem_mem hlt)
    have e2 := iFree_l2 (varsM m[i].f0) m i (freeM m[i].f1) (by omega) (by omega) (fun o => freeMC o (m.drop (i + 1))) (out.length + (1 + budX m[i].f1)) (by omega) (fun o hl => by rw [w64 _ (by omega) (by omega)]; exact ih (i + 1) o (by omega) (by omega)) (freeM m[i].f1).length 0 out (by omega) (by omega)
    rw [List.drop_zero] at e2
    rw [hd, freeMC, freec_eq]
    generalize m[i] = c at *
    refine Ev.step (f := fun k => (impl_VarsOf.f k c.f0.f0 c.f0.f1 c.f0.f2 c.f0.f3 c.f0.f4).bind fun t263 => ((impl_FreeOf.f k c.f1.f0 c.f1.f1 c.f1.f2 c.f1.f3 c.f1.f4).bind fun t266 => (impl_FreeOf.l2 k out t263 m (m.length : Int) i t266 (t266.length : Int) 0))) (fun k => ?_) (Ev.bind ev (Ev.bind ex e2))
    simp only [impl_FreeOf.l1]; rw [if_pos (by omega), if_pos (by omega), if_pos (by omega), hrd]
theorem iFree_l0 (a b : Int) (s : ByteArray) (l : List S32) (m : List (P46 S32)) (hl : (l.length : Int) + budXL l ≤ 2097152) (R : List ByteArray → List ByteArray) (N0 : Nat) (hN : N0 ≤ 2500000)
    (h : ∀ x ∈ l, Ev (fun k => impl_FreeOf.f k x.f0 x.f1 x.f2 x.f3 x.f4) (freeM x))
    (hend : ∀ out : List ByteArray, out.length ≤ N0 → Ev (fun k => impl_FreeOf.l1 k out m (m.length : Int) 0) (R out)) (n : Nat) :
    ∀ (i : Nat) (out : List ByteArray), i + n = l.length → out.length + (n + budXL (l.drop i)) ≤ N0 → Ev (fun k => impl_FreeOf.l0 k out l (l.length : Int) i a b s l m) (R (freeML out (l.drop i))) := by
  induction n with
  | zero =>
    intro i out hi ho
    rw [List.drop_eq_nil_of_le (by omega), freeML]
    refine Ev.step (fun k => ?_) (hend out (by omega))
    simp only [impl_FreeOf.l0]; rw [if_neg (by omega)]
  | succ n ih =>
    intro i out hi ho
    have hlt : i < l.length := by omega
    have hd : l.drop i = l[i] :: l.drop (i + 1) := List.drop_eq_getElem_cons hlt
    have hrd := rdE l i hlt
    have hbud := budXL_drop l i hlt
    have hmem := budXL_mem l l[i] (List.getElem_mem hlt)
    have hf := free_len l[i]
    have ex := h l[i] (List.getElem_mem hlt)
    have ea := addOnce_ev out (freeM l[i]) (by omega) (by omega)
    have hlen := addB_len [] (freeM l[i]) out
    have hn := ih (i + 1) (addB [] out (freeM l[i])) (by omega) (by omega)
    rw [hd, freeML]
    generalize l[i] = x at *
    refine Ev.step (f := fun k => (impl_FreeOf.f k x.f0 x.f1 x.f2 x.f3 x.f4).bind fun t255 => ((impl_addOnce.f k out t255).bind fun t258 => (impl_FreeOf.l0 k t258 l (l.length : Int) (wrap64 ((i : Int) + 1)) a b s l m))) (fun k => ?_) (Ev.bind ex (Ev.bind ea ?_))
    · simp only [impl_FreeOf.l0]; rw [if_pos (by omega), if_pos (by omega), if_pos (by omega), hrd]
    · rw [w64 _ (by omega) (by omega)]
      exact hn
theorem iFree_all : ∀ x, (budX x : Int) ≤ 2097152 → Ev (fun k => impl_FreeOf.f k x.f0 x.f1 x.f2 x.f3 x.f4) (freeM x) := by
  refine indE ?_
  intro a b s l m ihl ihm hb
  rw [budX] at hb
  show Ev (fun k => impl_FreeOf.f k a b s l m) _
  rw [freeM]
  by_cases h3 : a = 3
  · rw [if_pos h3]
    refine Ev.step (f := fun _ => some [s]) (fun k => ?_) (Ev.now _)
    simp only [impl_FreeOf.f]; rw [if_pos h3]
  · rw [if_neg h3]
    refine Ev.step (f := fun k => impl_FreeOf.l0 k ([] : List ByteArray) l (l.length : Int) 0 a b s l m) (fun k => by simp only [impl_FreeOf.f]; rw [if_neg h3]) ?_
    have := iFree_l0 a b s l m (by omega) (fun o => freeMC o m) (l.length + budXL l) (by omega) (fun x hx => ihl x hx (by have := budXL_mem l x hx; omega)) (fun o h => ?_) l.length 0 [] (by omega) (by rw [List.drop_zero]; simp)
    · rw [List.drop_zero] at this
      exact this
    · have := iFree_l1 m (by omega) (fun c hc => (ihm c hc).2 (by have := budXC_mem m c hc; omega)) m.length 0 o (by omega) (by rw [List.drop_zero]; omega)
      rw [List.drop_zero] at this
      exact this
theorem str_one (x : Int) : (strOfNums [x]).size = 1 := by unfold strOfNums; rfl
theorem laws_markText_l0 (m : Nat) : ∀ (n : Nat) (x3 : ByteArray), n ≤ m → n ≤ 4000000000 → x3.size + n ≤ 5000000000 → ∃ r, Ev (fun k => laws_markText.l0 k (n : Int) x3) r := by
  have z : ∀ x3 : ByteArray, x3.size ≤ 5000000000 → ∃ r, Ev (fun k => laws_markText.l0 k ((0 : Nat) : Int) x3) r := fun x3 hs =>
    ⟨_, Ev.step (f := fun _ => (if 1 + x3.size ≤ 9223372036854775807 then (some ((⟨#[109]⟩ : ByteArray) ++ x3)) else none)) (fun k => by simp only [laws_markText.l0]; rw [if_neg (by omega)]) (ev_pos (by omega) (Ev.now _))⟩
  induction m with
  | zero =>
    intro n x3 hm h1 h2
    obtain rfl : n = 0 := by omega
    exact z x3 (by omega)
  | succ m ih =>
    intro n x3 hm h1 h2
    by_cases h0 : n = 0
    · subst h0; exact z x3 (by omega)
    · have ht : wrap64 (Int.tdiv (n : Int) 10) = ((n / 10 : Nat) : Int) := by
        rw [Int.tdiv_eq_ediv_of_nonneg (by omega), w64 _ (by omega) (by omega)]; omega
      obtain ⟨r, e⟩ := ih (n / 10) (strOfNums [(wrap64 (48 + (Int.tmod (n : Int) 10))) % 256] ++ x3) (by omega) (by omega) (by rw [ByteArray.size_append, str_one]; omega)
      refine ⟨r, Ev.step (f := fun k => (some (([(wrap64 (48 + (Int.tmod (n : Int) 10))) % 256] : List Int) : List Int)).bind fun y => (if (strOfNums y).size + x3.size ≤ 9223372036854775807 then (laws_markText.l0 k (wrap64 (Int.tdiv (n : Int) 10)) ((strOfNums y) ++ x3)) else (none))) (fun k => ?_) (Ev.bind (Ev.now _) (ev_pos ?_ ?_))⟩
      · simp only [laws_markText.l0]; rw [if_pos (by omega)]
      · rw [str_one]; omega
      · rw [ht]; exact e
theorem laws_markText_ev (n : Int) (h0 : 0 ≤ n) (h1 : n ≤ 4000000000) : ∃ r, Ev (fun k => laws_markText.f k n) r := by
  unfold laws_markText.f
  by_cases h : n ≤ 0
  · exact ⟨_, ev_pos h (Ev.now _)⟩
  · obtain ⟨m, rfl⟩ : ∃ m : Nat, n = (m : Int) := ⟨n.toNat, by omega⟩
    obtain ⟨r, e⟩ := laws_markText_l0 m m ⟨#[]⟩ (by omega) (by omega) (by show 0 + m ≤ _; omega)
    exact ⟨r, ev_neg h e⟩
def MarkP (x : S32) : Prop := ∀ x1 : Int, 0 ≤ x1 → x1 + 6 * budX x ≤ 100000000 → ∃ r1 r2 : Int, x1 ≤ r1 ∧ r1 ≤ r2 ∧ r2 ≤ x1 + 6 * budX x ∧ Ev (fun k => laws_markExprS.f k x.f3 x1) r1 ∧ Ev (fun k => laws_markClauseS.f k x.f4 r1) r2
theorem markES_loop (l : List S32) (hl : (l.length : Int) ≤ 4194304) (h : ∀ y ∈ l, MarkP y) (d : Nat) :
    ∀ (i : Nat) (x1 : Int), i + d = l.length → 0 ≤ x1 → x1 + 6 * (d + budXL (l.drop i)) ≤ 100000000 → ∃ r : Int, x1 ≤ r ∧ r ≤ x1 + 6 * (d + budXL (l.drop i)) ∧ Ev (fun k => laws_markExprS.l0 k l x1 i) r := by
  induction d with
  | zero =>
    intro i x1 hi h0 hb
    refine ⟨x1, by omega, by omega, Ev.step (f := fun _ => some x1) (fun k => ?_) (Ev.now _)⟩
    simp only [laws_markExprS.l0]; rw [if_neg (by omega)]
  | succ d ih =>
    intro i x1 hi h0 hb
    have hlt : i < l.length := by omega
    have hc : budXL (l.drop i) = budX l[i] + budXL (l.drop (i + 1)) := by rw [List.drop_eq_getElem_cons hlt, budXL]
    obtain ⟨s, e⟩ := laws_markText_ev (x1 + 1 + 1) (by omega) (by omega)
    obtain ⟨r1, r2, h1, h2, h3, e1, e2⟩ := h l[i] (List.getElem_mem hlt) (x1 + 1 + 1 + 1) (by omega) (by omega)
    obtain ⟨r, h4, h5, e3⟩ := ih (i + 1) r2 (by omega) (by omega) (by omega)
    refine ⟨r, by omega, by omega, ?_⟩
    refine Ev.step (f := fun k => (laws_markText.f k (x1 + 1 + 1)).bind fun _ => ((laws_markExprS.f k l[i].f3 (x1 + 1 + 1 + 1)).bind fun t3 => ((laws_markClauseS.f k l[i].f4 t3).bind fun t4 => (laws_markExprS.l0 k l t4 (wrap64 ((i : Int) + 1)))))) (fun k => ?_) (Ev.bind e (Ev.bind e1 (Ev.bind e2 ?_)))
    · simp only [laws_markExprS.l0]
      rw [if_pos (by omega), if_pos (by omega), rdE l i hlt, w64 (x1 + 1) (by omega) (by omega), w64 (x1 + 1 + 1) (by omega) (by omega), w64 (x1 + 1 + 1 + 1) (by omega) (by omega)]
    · rw [w64 _ (by omega) (by omega)]
      exact e3
theorem markCS_loop (l : List (P46 S32)) (hl : (l.length : Int) ≤ 4194304) (h : ∀ c ∈ l, MarkP c.f0 ∧ MarkP c.f1) (d : Nat) :
    ∀ (i : Nat) (x1 : Int), i + d = l.length → 0 ≤ x1 → x1 + 6 * (d + budXC (l.drop i)) ≤ 100000000 → ∃ r : Int, x1 ≤ r ∧ r ≤ x1 + 6 * (d + budXC (l.drop i)) ∧ Ev (fun k => laws_markClauseS.l0 k l x1 i) r := by
  induction d with
  | zero =>
    intro i x1 hi h0 hb
    refine ⟨x1, by omega, by omega, Ev.step (f := fun _ => some x1) (fun k => ?_) (Ev.now _)⟩
    simp only [laws_markClauseS.l0]; rw [if_neg (by omega)]
  | succ d ih =>
    intro i x1 hi h0 hb
    have hlt : i < l.length := by omega
    have hc : budXC (l.drop i) = budX l[i].f0 + budX l[i].f1 + budXC (l.drop (i + 1)) := by
      rw [List.drop_eq_getElem_cons hlt, budXC]
      congr 1
      generalize l[i] = c
      cases c
      rw [budXc]
    obtain ⟨q0, q1⟩ := h l[i] (List.getElem_mem hlt)
    obtain ⟨s, e⟩ := laws_markText_ev (x1 + 1 + 1) (by omega) (by omega)
    obtain ⟨r1, r2, h1, h2, h3, e1, e2⟩ := q0 (x1 + 1 + 1 + 1) (by omega) (by omega)
    obtain ⟨s', e'⟩ := laws_markText_ev (r2 + 1 + 1) (by omega) (by omega)
    obtain ⟨r3, r4, h6, h7, h8, e4, e5⟩ := q1 (r2 + 1 + 1 + 1) (by omega) (by omega)
    obtain ⟨r, h4, h5, e3⟩ := ih (i + 1) r4 (by omega) (by omega) (by omega)
    refine ⟨r, by omega, by omega, ?_⟩
    refine Ev.step (f := fun k => (laws_markText.f k (x1 + 1 + 1)).bind fun _ => ((laws_markExprS.f k l[i].f0.f3 (x1 + 1 + 1 + 1)).bind fun t3 => ((laws_markClauseS.f k l[i].f0.f4 t3).bind fun t4 => ((laws_markText.f k (wrap64 ((wrap64 (t4 + 1)) + 1))).bind fun _ => ((laws_markExprS.f k l[i].f1.f3 (wrap64 ((wrap64 ((wrap64 (t4 + 1)) + 1)) + 1))).bind fun t8 => ((laws_markClauseS.f k l[i].f1.f4 t8).bind fun t9 => (laws_markClauseS.l0 k l t9 (wrap64 ((i : Int) + 1))))))))) (fun k => ?_) (Ev.bind e (Ev.bind e1 (Ev.bind e2 ?_)))
    · simp only [laws_markClauseS.l0]
      rw [if_pos (by omega), if_pos (by omega), rdC l i hlt, w64 (x1 + 1) (by omega) (by omega), w64 (x1 + 1 + 1) (by omega) (by omega), w64 (x1 + 1 + 1 + 1) (by omega) (by omega)]
    · rw [w64 (r2 + 1) (by omega) (by omega), w64 (r2 + 1 + 1) (by omega) (by omega), w64 (r2 + 1 + 1 + 1) (by omega) (by omega)]
      refine Ev.bind e' (Ev.bind e4 (Ev.bind e5 ?_))
      rw [w64 _ (by omega) (by omega)]
      exact e3
theorem markP_all : ∀ x, (budX x : Int) ≤ 4194304 → MarkP x := by
  refine indE ?_
  intro a b s l m ih ihc hb x1 h0 h1
  rw [budX] at hb h1 ⊢
  obtain ⟨r1, h2, h3, e1⟩ := markES_loop l (by omega) (fun y hy => ih y hy (by have := budXL_mem l y hy; omega)) l.length 0 x1 (by omega) h0 (by rw [List.drop_zero]; omega)
  obtain ⟨r2, h4, h5, e2⟩ := markCS_loop m (by omega) (fun c hc => ⟨(ihc c hc).1 (by have := budXC_mem m c hc; omega), (ihc c hc).2 (by have := budXC_mem m c hc; omega)⟩) m.length 0 r1 (by omega) (by omega) (by rw [List.drop_zero] at h3 ⊢; omega)
  rw [List.drop_zero] at h3 h5
  exact ⟨r1, r2, h2, h4, by omega, Ev.step (fun k => by simp only [laws_markExprS.f]; rfl) e1, Ev.step (fun k => by simp only [laws_markClauseS.f]; rfl) e2⟩
theorem markExpr_ev (a b : Int) (s : ByteArray) (l : List S32) (m : List (P46 S32)) (hb : (budX ⟨a, b, s, l, m⟩ : Int) ≤ 4194304) : ∃ r : Int, 1 ≤ r ∧ Ev (fun k => laws_markExpr.f k a b s l m 1) r := by
  obtain ⟨r1, r2, h1, h2, h3, e1, e2⟩ := markP_all ⟨a, b, s, l, m⟩ hb 1 (by omega) (by omega)
  unfold laws_markExpr.f
  exact ⟨r2, by omega, Ev.bind e1 (Ev.bind e2 (Ev.now _))⟩
theorem laws_eqStringS_l (x : List ByteArray) (hl : (x.length : Int) ≤ 281474976710656) (d : Nat) : ∀ (i : Nat), i + d = x.length → Ev (fun k => laws_eqStringS.l0 k x x i) true := by
  induction d with
  | zero =>
    intro i hi
    refine Ev.step (f := fun _ => some true) (fun k => ?_) (Ev.now _)
    simp only [laws_eqStringS.l0]; rw [if_neg (by omega)]
  | succ d ih =>
    intro i hi
    refine Ev.step (fun k => ?_) (ih (i + 1) (by omega))
    simp only [laws_eqStringS.l0]
    rw [if_pos (by omega), if_pos (by omega), if_pos (by omega), if_pos trivial, w64 _ (by omega) (by omega)]
    rfl
theorem laws_eqStringS_ev (x : List ByteArray) (hl : (x.length : Int) ≤ 281474976710656) : Ev (fun k => laws_eqStringS.f k x x) true := by
  unfold laws_eqStringS.f
  exact ev_pos rfl (laws_eqStringS_l x hl x.length 0 (by omega))
noncomputable def mtx (n : Int) : ByteArray := if h : 0 ≤ n ∧ n ≤ 4000000000 then Classical.choose (laws_markText_ev n h.1 h.2) else ByteArray.empty
theorem mtx_ev (n : Int) (h0 : 0 ≤ n) (h1 : n ≤ 4000000000) : Ev (fun k => laws_markText.f k n) (mtx n) := by
  unfold mtx
  rw [dif_pos ⟨h0, h1⟩]
  exact Classical.choose_spec (laws_markText_ev n h0 h1)
theorem set_takeS (l : List ByteArray) (i : Nat) (v : ByteArray) (h : i < l.length) : (l.set i v).take (i + 1) = l.take i ++ [v] := by
  rw [List.take_succ_eq_append_getElem (by simpa using h)]
  simp [List.take_set]
  rw [List.set_eq_of_length_le (by simp; omega)]
noncomputable def markS (n : Nat) (k : Int) : List ByteArray := (List.range n).map fun (i : Nat) => mtx (k + (i : Int))
theorem markS_len (n : Nat) (k : Int) : (markS n k).length = n := by simp [markS]
theorem markS_rd (n : Nat) (k : Int) (i : Nat) (h : i < n) : rdOf ByteArray.empty (markS n k) (i : Int) = mtx (k + (i : Int)) := by
  unfold rdOf markS
  simp [List.getD_eq_getElem?_getD, h]
theorem laws_markStringS_l (n : Nat) (k0 : Int) (hn : (n : Int) ≤ 8388608) (hk0 : 0 ≤ k0) (hk : k0 ≤ 8388608) (d : Nat) : ∀ (i : Nat) (y : List ByteArray), i + d = n → y.length = n → y.take i = (markS n k0).take i → Ev (fun k => laws_markStringS.l0 k y (k0 + (i : Int)) i) (k0 + (n : Int), markS n k0) := by
  induction d with
  | zero =>
    intro i y hi hy ht
    refine Ev.step (f := fun _ => some (k0 + (i : Int), y)) (fun k => ?_) (ev_cast ?_ (Ev.now _))
    · simp only [laws_markStringS.l0]; rw [if_neg (by omega)]
    · rw [List.take_of_length_le (by omega), List.take_of_length_le (by rw [markS_len]; omega)] at ht
      rw [ht]; simp; omega
  | succ d ih =>
    intro i y hi hy ht
    have := ih (i + 1) (y.set i (mtx (k0 + (i : Int)))) (by omega) (by simpa using hy) (by
      rw [set_takeS _ _ _ (by omega), ht, List.take_succ_eq_append_getElem (by rw [markS_len]; omega)]
      simp [markS])
    refine Ev.step (f := fun k => (laws_markText.f k (k0 + (i : Int))).bind fun t223 => (if 0 ≤ (i : Int) then (laws_markStringS.l0 k (y.set (i : Int).toNat t223) (wrap64 ((k0 + (i : Int)) + 1)) (wrap64 ((i : Int) + 1))) else (none))) (fun k => ?_) (Ev.bind (mtx_ev _ (by omega) (by omega)) (ev_pos (by omega) ?_))
    · simp only [laws_markStringS.l0]
      rw [if_pos (by omega)]
    · rw [w64 _ (by omega) (by omega), w64 _ (by omega) (by omega)]
      have e : k0 + (i : Int) + 1 = k0 + ((i + 1 : Nat) : Int) := by omega
      rw [e]
      exact this
theorem laws_markStringS_ev (l : List ByteArray) (hl : (l.length : Int) ≤ 8388608) : Ev (fun k => laws_markStringS.f k l 1) (1 + (l.length : Int), markS l.length 1) := by
  have := laws_markStringS_l l.length 1 hl (by omega) (by omega) l.length 0 l (by omega) rfl (by simp)
  simpa [laws_markStringS.f] using this
theorem laws_heldStringS_l (n : Nat) (k0 : Int) (hn : (n : Int) ≤ 8388608) (hk0 : 0 ≤ k0) (hk : k0 ≤ 8388608) (d : Nat) : ∀ (i : Nat), i + d = n → Ev (fun k => laws_heldStringS.l0 k (markS n k0) (k0 + (i : Int)) i) (k0 + (n : Int)) := by
  induction d with
  | zero =>
    intro i hi
    refine Ev.step (f := fun _ => some (k0 + (i : Int))) (fun k => ?_) (ev_cast ?_ (Ev.now _))
    · simp only [laws_heldStringS.l0]; rw [if_neg (by rw [markS_len]; omega)]
    · omega
  | succ d ih =>
    intro i hi
    refine Ev.step (f := fun k => (laws_markText.f k (k0 + (i : Int))).bind fun t226 => (if (rdOf ByteArray.empty (markS n k0) (i : Int)).toList = t226.toList then (laws_heldStringS.l0 k (markS n k0) (wrap64 ((k0 + (i : Int)) + 1)) (wrap64 ((i : Int) + 1))) else (some (-1)))) (fun k => ?_) (Ev.bind (mtx_ev _ (by omega) (by omega)) (ev_pos (by rw [markS_rd n k0 i (by omega)]) ?_))
    · simp only [laws_heldStringS.l0]
      rw [if_pos (by rw [markS_len]; omega), if_pos (by omega)]
    · rw [w64 _ (by omega) (by omega), w64 _ (by omega) (by omega)]
      have e : k0 + (i : Int) + 1 = k0 + ((i + 1 : Nat) : Int) := by omega
      rw [e]
      exact ih (i + 1) (by omega)
theorem laws_heldStringS_ev (n : Nat) (hl : (n : Int) ≤ 8388608) : Ev (fun k => laws_heldStringS.f k (markS n 1) 1) (1 + (n : Int)) := by
  have := laws_heldStringS_l n 1 hl (by omega) (by omega) n 0 (by omega)
  simpa [laws_heldStringS.f] using this
theorem FnExactFreeOf : laws_FnExactFreeOf.Pure := by
  intro a b s l m hw
  refine Ev.rounds (g := fun k => laws_FnExactFreeOf.f k a b s l m) ?_
  unfold laws_FnExactFreeOf.f
  refine Ev.bind (szE_all ⟨a, b, s, l, m⟩ hw 1048576 (by omega) (by omega)) ?_
  unfold szRes
  by_cases hb : (budE ⟨a, b, s, l, m⟩ : Int) ≤ 1048576
  · rw [if_pos hb]
    refine ev_neg (by omega) ?_
    have hi : (budX (cvE ⟨a, b, s, l, m⟩) : Int) ≤ 1048576 := by rw [budX_cv]; exact hb
    rw [cvE] at hi
    have ht : Ev (fun k => laws_toExpr.f k a b s l m) (a, b, s, cvEL l, cvCL m) := toE_all ⟨a, b, s, l, m⟩ hb
    have es : Ev (fun k => spec_FreeOf.f k a b s (cvEL l) (cvCL m)) _ := spec_FreeOf_ev ⟨a, b, s, cvEL l, cvCL m⟩ (by omega)
    have ei : Ev (fun k => impl_FreeOf.f k a b s (cvEL l) (cvCL m)) _ := iFree_all ⟨a, b, s, cvEL l, cvCL m⟩ (by omega)
    have hlen := free_len ⟨a, b, s, cvEL l, cvCL m⟩
    obtain ⟨r, hr, em⟩ := markExpr_ev a b s (cvEL l) (cvCL m) (by omega)
    generalize freeM ⟨a, b, s, cvEL l, cvCL m⟩ = G at es ei hlen
    have eq := laws_eqStringS_ev G (by omega)
    have eh := laws_heldStringS_ev G.length (by omega)
    refine Ev.step (fun k => by simp only [laws_FnExactFreeOf.j0]; rfl) ?_
    refine Ev.bind ht (Ev.bind es (Ev.bind ht (Ev.bind ei (Ev.bind eq (ev_pos rfl ?_)))))
    refine Ev.step (fun k => by simp only [laws_FnExactFreeOf.j1]; rfl) ?_
    refine Ev.bind ht (Ev.bind (eqE_all ⟨a, b, s, cvEL l, cvCL m⟩ (by omega)) (ev_pos rfl ?_))
    refine Ev.step (fun k => by simp only [laws_FnExactFreeOf.j2]; rfl) ?_
    refine Ev.bind em (ev_neg (show ¬ r < 0 by omega) (Ev.bind eq ?_))
    refine Ev.step (f := fun k => laws_FnExactFreeOf.j4 k G G a b s l m) (fun k => by simp only [laws_FnExactFreeOf.j3]; rw [if_neg (by decide)]) ?_
    refine Ev.step (fun k => by simp only [laws_FnExactFreeOf.j4]; rfl) ?_
    refine Ev.bind (laws_markStringS_ev G (by omega)) (Ev.bind eh (ev_neg (by omega) ?_))
    refine Ev.step (f := fun k => laws_FnExactFreeOf.j6 k G (markS G.length 1) (1 + (G.length : Int)) a b s l m) (fun k => by simp only [laws_FnExactFreeOf.j5]; rw [if_pos trivial]) ?_
    refine Ev.step (fun k => by simp only [laws_FnExactFreeOf.j6]; rfl) ?_
    refine Ev.bind ht (Ev.bind ei (Ev.bind eq (ev_pos rfl ?_)))
    refine Ev.step (fun k => by simp only [laws_FnExactFreeOf.j7]; rfl) ?_
    exact Ev.bind eh (ev_neg (by omega) (ev_pos rfl (Ev.now _)))
  · rw [if_neg hb]
    exact ev_pos (by omega) (Ev.now _)

end Go.Proofs.Ytlgenmndgngmdaa.Pure
