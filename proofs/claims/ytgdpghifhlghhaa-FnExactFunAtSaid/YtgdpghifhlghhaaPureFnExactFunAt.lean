/- What the law FnExactFunAt of this seat says holds for every input that its row speaks of; no further condition. -/
import Derived.Test.YtgdpghifhlghhaaQFnExactFunAtx7
set_option linter.unusedVariables false
set_option linter.unusedSimpArgs false
namespace Go.Proofs.Ytgdpghifhlghhaa.Pure
open Go.RowKit Go.Proofs.Ytgdpghifhlghhaa.QFnExactFunAt Go.Proofs.YtgdpghifhlghhaaW.PrintWords Go.Proofs.YtgdpghifhlghhaaW.PrintLast Go.Proofs.YtgdpghifhlghhaaW.PrintMore

theorem ev_pos {α : Type} {c : Prop} [Decidable c] {A B : Nat → Option α} {r : α} (h : c) (e : Ev A r) : Ev (fun k => if c then A k else B k) r := by
  obtain ⟨K, hK⟩ := e
  exact ⟨K, fun k hk => by simp only [if_pos h]; exact hK k hk⟩
theorem ev_neg {α : Type} {c : Prop} [Decidable c] {A B : Nat → Option α} {r : α} (h : ¬ c) (e : Ev B r) : Ev (fun k => if c then A k else B k) r := by
  obtain ⟨K, hK⟩ := e
  exact ⟨K, fun k hk => by simp only [if_neg h]; exact hK k hk⟩
theorem ev_of {α : Type} {o : Option α} {r : α} (h : o = some r) : Ev (fun _ => o) r := ⟨0, fun _ _ => h⟩
theorem ev_cast {α : Type} {g : Nat → Option α} {r r' : α} (h : r = r') (e : Ev g r) : Ev g r' := h ▸ e
theorem ev_uniq {α : Type} {g : Nat → Option α} {r r' : α} (h : Ev g r) (h' : Ev g r') : r = r' := by
  obtain ⟨K, hK⟩ := h
  obtain ⟨K', hK'⟩ := h'
  have a := hK (max K K') (Nat.le_max_left _ _)
  have b := hK' (max K K') (Nat.le_max_right _ _)
  rw [a] at b
  exact Option.some.inj b
theorem w64 (n : Int) (h0 : -9223372036854775808 ≤ n) (h1 : n ≤ 9223372036854775807) : wrap64 n = n := by unfold wrap64; omega
theorem dec_and (p q : Prop) [Decidable p] [Decidable q] : decide (p ∧ q) = (decide p && decide q) := by
  by_cases hp : p <;> by_cases hq : q <;> simp [hp, hq]
def szRes (left : Int) (b : Nat) : Int := if (b : Int) ≤ left then left - b else -1
theorem getDG {α : Type} (z : α) (l : List α) (i : Nat) (h : i < l.length) : l.getD ((i : Int)).toNat z = l[i] := by
  simp [List.getD_eq_getElem?_getD, List.getElem?_eq_getElem h]
theorem map_loop {α β : Type} (L : Nat → List β → Int → Option (List β)) (f : α → β) (l : List α)
    (hstep : ∀ (i : Nat) (h : i < l.length) (x : List β) (r : List β), x.length = l.length → Ev (fun k => L k (x.set i (f l[i])) ((i + 1 : Nat) : Int)) r → Ev (fun k => L k x (i : Int)) r)
    (hend : ∀ x : List β, x.length = l.length → Ev (fun k => L k x (l.length : Int)) x) (d : Nat) :
    ∀ (i : Nat) (x : List β), i + d = l.length → x.length = l.length → x.take i = (l.map f).take i → Ev (fun k => L k x (i : Int)) (l.map f) := by
  induction d with
  | zero =>
    intro i x hi hx ht
    have e : i = l.length := by omega
    subst e
    refine ev_cast ?_ (hend x hx)
    rwa [List.take_of_length_le (by omega), List.take_of_length_le (by rw [List.length_map]; omega)] at ht
  | succ d ih =>
    intro i x hi hx ht
    have hlt : i < l.length := by omega
    refine hstep i hlt x _ hx (ih (i + 1) _ (by omega) (by simpa using hx) ?_)
    rw [List.take_succ_eq_append_getElem (by simpa using (by omega : i < x.length)), List.take_set_of_le (Nat.le_refl i), ht, List.take_succ_eq_append_getElem (by simpa using hlt)]
    simp
theorem map_loop0 {α β : Type} (L : Nat → List β → Int → Option (List β)) (f : α → β) (l : List α) (z : β)
    (hstep : ∀ (i : Nat) (h : i < l.length) (x : List β) (r : List β), x.length = l.length → Ev (fun k => L k (x.set i (f l[i])) ((i + 1 : Nat) : Int)) r → Ev (fun k => L k x (i : Int)) r)
    (hend : ∀ x : List β, x.length = l.length → Ev (fun k => L k x (l.length : Int)) x) : Ev (fun k => L k (List.replicate l.length z) 0) (l.map f) :=
  map_loop L f l hstep hend l.length 0 (List.replicate l.length z) (by omega) (by simp) (by simp)
def sumB {α : Type} (bud : α → Nat) : List α → Nat
  | [] => 0
  | x :: r => bud x + sumB bud r
theorem sumB_drop {α : Type} (bud : α → Nat) (l : List α) (i : Nat) (h : i < l.length) : sumB bud (l.drop i) = bud l[i] + sumB bud (l.drop (i + 1)) := by
  rw [List.drop_eq_getElem_cons h, sumB]
theorem sumB_mem {α : Type} (bud : α → Nat) : ∀ (l : List α) (x : α), x ∈ l → bud x ≤ sumB bud l
  | [], x, h => by cases h
  | y :: r, x, h => by
    rw [sumB]
    rcases List.mem_cons.1 h with rfl | h
    · omega
    · have := sumB_mem bud r x h; omega
theorem sz_loopG {α : Type} (L : Nat → Int → Int → Option Int) (bud : α → Nat) (l : List α)
    (hstep : ∀ (i : Nat) (h : i < l.length) (left r : Int), 0 ≤ left → left ≤ 1048576 → ((bud l[i] : Int) ≤ left → Ev (fun k => L k (left - bud l[i]) ((i + 1 : Nat) : Int)) r) → (¬ (bud l[i] : Int) ≤ left → r = -1) → Ev (fun k => L k left (i : Int)) r)
    (hend : ∀ left : Int, Ev (fun k => L k left (l.length : Int)) left) (d : Nat) :
    ∀ (i : Nat) (left : Int), i + d = l.length → 0 ≤ left → left ≤ 1048576 → Ev (fun k => L k left (i : Int)) (szRes left (sumB bud (l.drop i))) := by
  induction d with
  | zero =>
    intro i left hi h0 h1
    have e : i = l.length := by omega
    subst e
    refine ev_cast ?_ (hend left)
    rw [List.drop_eq_nil_of_le (by omega), sumB]; unfold szRes; rw [if_pos (by omega)]; omega
  | succ d ih =>
    intro i left hi h0 h1
    have hlt : i < l.length := by omega
    rw [sumB_drop bud l i hlt]
    refine hstep i hlt left _ h0 h1 (fun hb => ?_) (fun hb => ?_)
    · refine ev_cast ?_ (ih (i + 1) (left - bud l[i]) (by omega) (by omega) (by omega))
      unfold szRes
      by_cases hc : (sumB bud (l.drop (i + 1)) : Int) ≤ left - bud l[i]
      · rw [if_pos hc, if_pos (by omega)]; omega
      · rw [if_neg hc, if_neg (by omega)]
    · unfold szRes; rw [if_neg (by omega)]
def allFrom (p : Nat → Bool) (i d : Nat) : Bool := (List.range' i d).all p
theorem all_loop (L : Nat → Int → Option Bool) (p : Nat → Bool) (n : Nat)
    (hstep : ∀ (i : Nat), i < n → ∀ r, (p i = true → Ev (fun k => L k ((i + 1 : Nat) : Int)) r) → (p i = false → r = false) → Ev (fun k => L k (i : Int)) r)
    (hend : Ev (fun k => L k (n : Int)) true) (d : Nat) : ∀ i : Nat, i + d = n → Ev (fun k => L k (i : Int)) (allFrom p i d) := by
  induction d with
  | zero =>
    intro i hi
    have e : i = n := by omega
    subst e
    exact hend
  | succ d ih =>
    intro i hi
    refine hstep i (by omega) _ (fun hp => ?_) (fun hp => ?_)
    · refine ev_cast ?_ (ih (i + 1) (by omega))
      unfold allFrom
      rw [List.range'_succ, List.all_cons, hp, Bool.true_and]
    · unfold allFrom
      rw [List.range'_succ, List.all_cons, hp, Bool.false_and]
theorem rdE (l : List S38) (i : Nat) (h : i < l.length) : rd_T38 l (i : Int) = l[i] := getDG _ l i h
theorem rdC (l : List S70) (i : Nat) (h : i < l.length) : rd_T70 l (i : Int) = l[i] := getDG _ l i h
theorem indE {P : S38 → Prop} (h : ∀ a b s l m, (∀ y ∈ l, P y) → (∀ c : P70 S38, c ∈ m → P c.f0 ∧ P c.f1) → P ⟨a, b, s, l, m⟩) : ∀ x, P x := by
  intro x
  refine S38.rec (motive_1 := P) (motive_2 := fun l => ∀ y ∈ l, P y) (motive_3 := fun m => ∀ c ∈ m, P c.f0 ∧ P c.f1) (motive_4 := fun c => P c.f0 ∧ P c.f1) ?_ ?_ ?_ ?_ ?_ ?_ x
  · intro a b s l m hl hm
    exact h a b s l m hl hm
  · intro y hy; cases hy
  · intro x r hx hr y hy
    rcases List.mem_cons.1 hy with rfl | hy
    · exact hx
    · exact hr y hy
  · intro y hy; cases hy
  · intro x r hx hr y hy
    rcases List.mem_cons.1 hy with rfl | hy
    · exact hx
    · exact hr y hy
  · intro p q hp hq
    exact ⟨hp, hq⟩
mutual
def budX : S38 → Nat
  | ⟨_, _, s, l, m⟩ => s.size + (l.length + budXL l) + (m.length + budXC m)
def budXL : List S38 → Nat
  | [] => 0
  | x :: r => budX x + budXL r
def budXc : P70 S38 → Nat
  | ⟨p, x⟩ => budX p + budX x
def budXC : List (P70 S38) → Nat
  | [] => 0
  | x :: r => budXc x + budXC r
end
theorem budXL_mem : ∀ (l : List S38) (x : S38), x ∈ l → budX x ≤ budXL l
  | [], x, h => by cases h
  | y :: r, x, h => by
    rw [budXL]
    rcases List.mem_cons.1 h with rfl | h
    · omega
    · have := budXL_mem r x h; omega
theorem budXC_mem : ∀ (l : List (P70 S38)) (c : P70 S38), c ∈ l → budX c.f0 + budX c.f1 ≤ budXC l
  | [], x, h => by cases h
  | y :: r, x, h => by
    rw [budXC]
    rcases List.mem_cons.1 h with rfl | h
    · obtain ⟨p, q⟩ := x
      rw [budXc]
      show budX p + budX q ≤ _
      omega
    · have := budXC_mem r x h; omega
theorem rdLE (l : List S49) (i : Nat) (h : i < l.length) : rd_T49 l (i : Int) = l[i] := getDG _ l i h
theorem rdLC (l : List S68) (i : Nat) (h : i < l.length) : rd_T68 l (i : Int) = l[i] := getDG _ l i h
theorem indLE {P : S49 → Prop} (h : ∀ a b s l m, (∀ y ∈ l, P y) → (∀ c : P68 S49, c ∈ m → P c.f0 ∧ P c.f1) → P ⟨a, b, s, l, m⟩) : ∀ x, P x := by
  intro x
  refine S49.rec (motive_1 := P) (motive_2 := fun l => ∀ y ∈ l, P y) (motive_3 := fun m => ∀ c ∈ m, P c.f0 ∧ P c.f1) (motive_4 := fun c => P c.f0 ∧ P c.f1) ?_ ?_ ?_ ?_ ?_ ?_ x
  · intro a b s l m hl hm
    exact h a b s l m hl hm
  · intro y hy; cases hy
  · intro x r hx hr y hy
    rcases List.mem_cons.1 hy with rfl | hy
    · exact hx
    · exact hr y hy
  · intro y hy; cases hy
  · intro x r hx hr y hy
    rcases List.mem_cons.1 hy with rfl | hy
    · exact hx
    · exact hr y hy
  · intro p q hp hq
    exact ⟨hp, hq⟩
mutual
def budE : S49 → Nat
  | ⟨_, _, s, l, m⟩ => s.size + (l.length + budEL l) + (m.length + budCL m)
def budEL : List S49 → Nat
  | [] => 0
  | x :: r => budE x + budEL r
def budCc : P68 S49 → Nat
  | ⟨p, x⟩ => budE p + budE x
def budCL : List (P68 S49) → Nat
  | [] => 0
  | x :: r => budCc x + budCL r
end
mutual
def cvE : S49 → S38
  | ⟨a, b, s, l, m⟩ => ⟨a, b, s, cvEL l, cvCL m⟩
def cvEL : List S49 → List S38
  | [] => []
  | x :: r => cvE x :: cvEL r
def cvC : P68 S49 → P70 S38
  | ⟨p, x⟩ => ⟨cvE p, cvE x⟩
def cvCL : List (P68 S49) → List (P70 S38)
  | [] => []
  | x :: r => cvC x :: cvCL r
end
theorem cvEL_map : ∀ l, cvEL l = l.map cvE
  | [] => rfl
  | x :: r => by rw [cvEL, List.map_cons, cvEL_map r]
theorem cvCL_map : ∀ l, cvCL l = l.map cvC
  | [] => rfl
  | x :: r => by rw [cvCL, List.map_cons, cvCL_map r]
theorem cvEL_len (l : List S49) : (cvEL l).length = l.length := by rw [cvEL_map, List.length_map]
theorem cvCL_len (l : List (P68 S49)) : (cvCL l).length = l.length := by rw [cvCL_map, List.length_map]
mutual
theorem budX_cv : ∀ x, budX (cvE x) = budE x
  | ⟨a, b, s, l, m⟩ => by rw [cvE, budX, budE, budXL_cv l, budXC_cv m, cvEL_len, cvCL_len]
theorem budXL_cv : ∀ l, budXL (cvEL l) = budEL l
  | [] => by rw [cvEL, budXL, budEL]
  | x :: r => by rw [cvEL, budXL, budEL, budX_cv x, budXL_cv r]
theorem budXc_cv : ∀ x, budXc (cvC x) = budCc x
  | ⟨p, x⟩ => by rw [cvC, budXc, budCc, budX_cv p, budX_cv x]
theorem budXC_cv : ∀ l, budXC (cvCL l) = budCL l
  | [] => by rw [cvCL, budXC, budCL]
  | x :: r => by rw [cvCL, budXC, budCL, budXc_cv x, budXC_cv r]
end
theorem sumE : ∀ l, sumB budE l = budEL l
  | [] => by rw [sumB, budEL]
  | x :: r => by rw [sumB, budEL, sumE r]
theorem sumC : ∀ l, sumB budCc l = budCL l
  | [] => by rw [sumB, budCL]
  | x :: r => by rw [sumB, budCL, sumC r]
theorem wfE_mk {a b : Int} {s : ByteArray} {l : List S49} {m : List (P68 S49)} (h : wf49 ⟨a, b, s, l, m⟩) : (s.size : Int) ≤ 9223372036854775807 ∧ (l.length : Int) ≤ 9223372036854775807 ∧ (∀ x ∈ l, wf49 x) ∧ (m.length : Int) ≤ 9223372036854775807 ∧ ∀ c : P68 S49, c ∈ m → wf49 c.f0 ∧ wf49 c.f1 := by
  unfold wf49 at h
  obtain ⟨h0, h1, h2, ⟨h3, h4⟩, h5, h6⟩ := h
  unfold maxLen at h2 h3 h5
  refine ⟨by omega, by omega, (wfl49_iff l).1 h4, by omega, fun c hc => ?_⟩
  have := (wfl68_iff m).1 h6 c hc
  obtain ⟨p, x⟩ := c
  unfold wf68 at this
  exact this
theorem rdS (l : List ByteArray) (i : Nat) (h : i < l.length) : rdOf ByteArray.empty l (i : Int) = l[i] := getDG _ l i h
theorem rd_lu (l : List S51) (i : Nat) (h : i < l.length) : rd_T51 l (i : Int) = l[i] := getDG _ l i h
theorem rd_iu (l : List S40) (i : Nat) (h : i < l.length) : rd_T40 l (i : Int) = l[i] := getDG _ l i h
def budSS (l : List ByteArray) : Nat := l.length + sumB ByteArray.size l
def budFu (x : S51) : Nat := x.f0.size + (budSS x.f1 + budE x.f2)
def budFu' (x : S40) : Nat := x.f0.size + (budSS x.f1 + budX x.f2)
def budFuS (l : List S51) : Nat := l.length + sumB budFu l
def cvFu (x : S51) : S40 := ⟨x.f0, x.f1, cvE x.f2⟩
theorem budFu_cv (x : S51) : budFu' (cvFu x) = budFu x := by unfold budFu budFu' cvFu; simp only []; rw [budX_cv]
theorem wfFu_mk {x : S51} (h : wf51 x) : (x.f0.size : Int) ≤ 9223372036854775807 ∧ (x.f1.length : Int) ≤ 9223372036854775807 ∧ (∀ y ∈ x.f1, (y.size : Int) ≤ 9223372036854775807) ∧ wf49 x.f2 := by
  obtain ⟨s, l, e⟩ := x
  unfold wf51 at h
  obtain ⟨h0, ⟨h1, h2⟩, h3⟩ := h
  unfold maxLen at h0 h1 h2
  exact ⟨by show (s.size : Int) ≤ _; omega, by show (l.length : Int) ≤ _; omega, fun y hy => by have := h2 y hy; omega, h3⟩
theorem szES_of (l : List S49) (hl : (l.length : Int) ≤ 9223372036854775807)
    (h : ∀ y ∈ l, ∀ left : Int, 0 ≤ left → left ≤ 1048576 → Ev (fun k => laws_szExpr.f k y.f0 y.f1 y.f2 y.f3 y.f4 left) (szRes left (budE y))) (left : Int) (h0 : 0 ≤ left) (h1 : left ≤ 1048576) :
    Ev (fun k => laws_szExprS.f k l left) (szRes left (l.length + budEL l)) := by
  by_cases hc : left - (l.length : Int) < 0
  · refine Ev.step (f := fun _ => some (-1)) (fun k => ?_) (ev_cast ?_ (Ev.now _))
    · simp only [laws_szExprS.f]; rw [w64 _ (by omega) (by omega), if_pos hc]
    · unfold szRes; rw [if_neg (by omega)]
  · refine Ev.step (f := fun k => laws_szExprS.l0 k l (left - l.length) 0) (fun k => ?_) (ev_cast ?_ (sz_loopG (fun k left i => laws_szExprS.l0 k l left i) budE l ?_ ?_ l.length 0 (left - l.length) (by omega) (by omega) (by omega)))
    · simp only [laws_szExprS.f]; rw [w64 _ (by omega) (by omega), if_neg hc]
    · rw [List.drop_zero, sumE]
      unfold szRes
      by_cases hb : (budEL l : Int) ≤ left - l.length
      · rw [if_pos hb, if_pos (by omega)]; omega
      · rw [if_neg hb, if_neg (by omega)]
    · intro i hi left r q0 q1 hr hn
      have e := h _ (List.getElem_mem hi) left q0 q1
      refine Ev.step (f := fun k => (laws_szExpr.f k l[i].f0 l[i].f1 l[i].f2 l[i].f3 l[i].f4 left).bind fun t102 => (if t102 < 0 then (some (-1)) else (laws_szExprS.l0 k l t102 (wrap64 ((i : Int) + 1))))) (fun k => ?_) (Ev.bind e ?_)
      · simp only [laws_szExprS.l0]; rw [if_pos (by omega), if_pos (by omega), rdLE l i hi]
      · rw [w64 _ (by omega) (by omega)]
        unfold szRes
        by_cases hb : (budE l[i] : Int) ≤ left
        · rw [if_pos hb]; exact ev_neg (by omega) (hr hb)
        · rw [if_neg hb]; exact ev_pos (by omega) (ev_cast (hn hb).symm (Ev.now _))
    · intro left
      refine Ev.step (f := fun _ => some left) (fun k => ?_) (Ev.now _)
      simp only [laws_szExprS.l0]; rw [if_neg (by omega)]
theorem szC_of (c : P68 S49) (e0 : ∀ left : Int, 0 ≤ left → left ≤ 1048576 → Ev (fun k => laws_szExpr.f k c.f0.f0 c.f0.f1 c.f0.f2 c.f0.f3 c.f0.f4 left) (szRes left (budE c.f0)))
    (e1 : ∀ left : Int, 0 ≤ left → left ≤ 1048576 → Ev (fun k => laws_szExpr.f k c.f1.f0 c.f1.f1 c.f1.f2 c.f1.f3 c.f1.f4 left) (szRes left (budE c.f1))) (left : Int) (h0 : 0 ≤ left) (h1 : left ≤ 1048576) :
    Ev (fun k => laws_szClause.f k c.f0.f0 c.f0.f1 c.f0.f2 c.f0.f3 c.f0.f4 c.f1.f0 c.f1.f1 c.f1.f2 c.f1.f3 c.f1.f4 left) (szRes left (budCc c)) := by
  have hbc : budCc c = budE c.f0 + budE c.f1 := by cases c; rw [budCc]
  refine Ev.step (f := fun k => (laws_szExpr.f k c.f0.f0 c.f0.f1 c.f0.f2 c.f0.f3 c.f0.f4 left).bind fun t104 => (if t104 < 0 then (some (-1)) else ((laws_szExpr.f k c.f1.f0 c.f1.f1 c.f1.f2 c.f1.f3 c.f1.f4 t104).bind fun t105 => (if t105 < 0 then (some (-1)) else (some t105))))) (fun k => rfl) (Ev.bind (e0 left h0 h1) ?_)
  unfold szRes
  by_cases hb : (budE c.f0 : Int) ≤ left
  · rw [if_pos hb]
    refine ev_neg (by omega) (Ev.bind (e1 (left - budE c.f0) (by omega) (by omega)) ?_)
    unfold szRes
    by_cases hb2 : (budE c.f1 : Int) ≤ left - budE c.f0
    · rw [if_pos hb2]
      refine ev_neg (by omega) (ev_cast ?_ (Ev.now _))
      rw [if_pos (by omega)]; omega
    · rw [if_neg hb2]
      refine ev_pos (by omega) (ev_cast ?_ (Ev.now _))
      rw [if_neg (by omega)]
  · rw [if_neg hb]
    refine ev_pos (by omega) (ev_cast ?_ (Ev.now _))
    rw [if_neg (by omega)]
theorem szCS_of (l : List (P68 S49)) (hl : (l.length : Int) ≤ 9223372036854775807)
    (h : ∀ c ∈ l, ∀ left : Int, 0 ≤ left → left ≤ 1048576 → Ev (fun k => laws_szClause.f k c.f0.f0 c.f0.f1 c.f0.f2 c.f0.f3 c.f0.f4 c.f1.f0 c.f1.f1 c.f1.f2 c.f1.f3 c.f1.f4 left) (szRes left (budCc c))) (left : Int) (h0 : 0 ≤ left) (h1 : left ≤ 1048576) :
    Ev (fun k => laws_szClauseS.f k l left) (szRes left (l.length + budCL l)) := by
  by_cases hc : left - (l.length : Int) < 0
  · refine Ev.step (f := fun _ => some (-1)) (fun k => ?_) (ev_cast ?_ (Ev.now _))
    · simp only [laws_szClauseS.f]; rw [w64 _ (by omega) (by omega), if_pos hc]
    · unfold szRes; rw [if_neg (by omega)]
  · refine Ev.step (f := fun k => laws_szClauseS.l0 k l (left - l.length) 0) (fun k => ?_) (ev_cast ?_ (sz_loopG (fun k left i => laws_szClauseS.l0 k l left i) budCc l ?_ ?_ l.length 0 (left - l.length) (by omega) (by omega) (by omega)))
    · simp only [laws_szClauseS.f]; rw [w64 _ (by omega) (by omega), if_neg hc]
    · rw [List.drop_zero, sumC]
      unfold szRes
      by_cases hb : (budCL l : Int) ≤ left - l.length
      · rw [if_pos hb, if_pos (by omega)]; omega
      · rw [if_neg hb, if_neg (by omega)]
    · intro i hi left r q0 q1 hr hn
      have e := h _ (List.getElem_mem hi) left q0 q1
      have hrd := rdLC l i hi
      generalize l[i] = c at *
      refine Ev.step (f := fun k => (laws_szClause.f k c.f0.f0 c.f0.f1 c.f0.f2 c.f0.f3 c.f0.f4 c.f1.f0 c.f1.f1 c.f1.f2 c.f1.f3 c.f1.f4 left).bind fun t102 => (if t102 < 0 then (some (-1)) else (laws_szClauseS.l0 k l t102 (wrap64 ((i : Int) + 1))))) (fun k => ?_) (Ev.bind e ?_)
      · simp only [laws_szClauseS.l0]; rw [if_pos (by omega), if_pos (by omega), hrd]
      · rw [w64 _ (by omega) (by omega)]
        unfold szRes
        by_cases hb : (budCc c : Int) ≤ left
        · rw [if_pos hb]; exact ev_neg (by omega) (hr hb)
        · rw [if_neg hb]; exact ev_pos (by omega) (ev_cast (hn hb).symm (Ev.now _))
    · intro left
      refine Ev.step (f := fun _ => some left) (fun k => ?_) (Ev.now _)
      simp only [laws_szClauseS.l0]; rw [if_neg (by omega)]
theorem szE_all : ∀ x, wf49 x → ∀ left : Int, 0 ≤ left → left ≤ 1048576 → Ev (fun k => laws_szExpr.f k x.f0 x.f1 x.f2 x.f3 x.f4 left) (szRes left (budE x)) := by
  refine indLE ?_
  intro a b s l m ih ihc hw left h0 h1
  obtain ⟨hs, hl, hm, hl2, hm2⟩ := wfE_mk hw
  simp only []
  rw [budE]
  by_cases hc : left - (s.size : Int) < 0
  · refine Ev.step (f := fun _ => some (-1)) (fun k => ?_) (ev_cast ?_ (Ev.now _))
    · simp only [laws_szExpr.f]; rw [w64 _ (by omega) (by omega), if_pos hc]
    · unfold szRes; rw [if_neg (by omega)]
  · refine Ev.step (f := fun k => (laws_szExprS.f k l (left - (s.size : Int))).bind fun t109 => (if t109 < 0 then (some (-1)) else ((laws_szClauseS.f k m t109).bind fun t110 => (if t110 < 0 then (some (-1)) else (some t110))))) (fun k => ?_) (Ev.bind (szES_of l hl (fun y hy => ih y hy (hm y hy)) (left - s.size) (by omega) (by omega)) ?_)
    · simp only [laws_szExpr.f]; rw [w64 _ (by omega) (by omega), if_neg hc]
    · unfold szRes
      by_cases hb : ((l.length + budEL l : Nat) : Int) ≤ left - s.size
      · rw [if_pos hb]
        refine ev_neg (by omega) (Ev.bind (szCS_of m hl2 (fun c hc2 => szC_of c ((ihc c hc2).1 (hm2 c hc2).1) ((ihc c hc2).2 (hm2 c hc2).2)) (left - s.size - ((l.length + budEL l : Nat) : Int)) (by omega) (by omega)) ?_)
        unfold szRes
        by_cases hb2 : ((m.length + budCL m : Nat) : Int) ≤ left - s.size - ((l.length + budEL l : Nat) : Int)
        · rw [if_pos hb2]
          refine ev_neg (by omega) (ev_cast ?_ (Ev.now _))
          rw [if_pos (by omega)]; omega
        · rw [if_neg hb2]
          refine ev_pos (by omega) (ev_cast ?_ (Ev.now _))
          rw [if_neg (by omega)]
      · rw [if_neg hb]
        refine ev_pos (by omega) (ev_cast ?_ (Ev.now _))
        rw [if_neg (by omega)]
theorem szSS_ev (l : List ByteArray) (hl : (l.length : Int) ≤ 9223372036854775807) (hs : ∀ y ∈ l, (y.size : Int) ≤ 9223372036854775807) (left : Int) (h0 : 0 ≤ left) (h1 : left ≤ 1048576) : Ev (fun k => laws_szStringS.f k l left) (szRes left (budSS l)) := by
  unfold laws_szStringS.f budSS
  rw [w64 _ (by omega) (by omega)]
  by_cases hc : left - (l.length : Int) < 0
  · refine ev_pos hc (ev_cast ?_ (Ev.now _))
    unfold szRes; rw [if_neg (by omega)]
  · refine ev_neg hc (ev_cast ?_ (sz_loopG (fun k left i => laws_szStringS.l0 k l left i) ByteArray.size l ?_ ?_ l.length 0 (left - l.length) (by omega) (by omega) (by omega)))
    · rw [List.drop_zero]
      unfold szRes
      by_cases hb : (sumB ByteArray.size l : Int) ≤ left - l.length
      · rw [if_pos hb, if_pos (by omega)]; omega
      · rw [if_neg hb, if_neg (by omega)]
    · intro i hi left r q0 q1 hr hn
      have hs := hs _ (List.getElem_mem hi)
      by_cases hb : (l[i].size : Int) ≤ left
      · refine Ev.step (fun k => ?_) (hr hb)
        simp only [laws_szStringS.l0]
        rw [if_pos (by omega), if_pos (by omega), rdS l i hi, w64 (left - (l[i].size : Int)) (by omega) (by omega), if_neg (by omega), w64 _ (by omega) (by omega)]
        rfl
      · rw [hn hb]
        refine Ev.step (f := fun _ => some (-1)) (fun k => ?_) (Ev.now _)
        simp only [laws_szStringS.l0]
        rw [if_pos (by omega), if_pos (by omega), rdS l i hi, w64 (left - (l[i].size : Int)) (by omega) (by omega), if_pos (by omega)]
    · intro left
      refine Ev.step (f := fun _ => some left) (fun k => ?_) (Ev.now _)
      simp only [laws_szStringS.l0]; rw [if_neg (by omega)]
theorem szFu_ev (x : S51) (hw : wf51 x) (left : Int) (h0 : 0 ≤ left) (h1 : left ≤ 1048576) : Ev (fun k => laws_szFun.f k x.f0 x.f1 x.f2.f0 x.f2.f1 x.f2.f2 x.f2.f3 x.f2.f4 left) (szRes left (budFu x)) := by
  obtain ⟨q0, q1, q2, q3⟩ := wfFu_mk hw
  unfold laws_szFun.f budFu
  rw [w64 _ (by omega) (by omega)]
  by_cases hc : left - (x.f0.size : Int) < 0
  · refine ev_pos hc (ev_cast ?_ (Ev.now _))
    unfold szRes; rw [if_neg (by omega)]
  · refine ev_neg hc (Ev.bind (szSS_ev x.f1 q1 q2 (left - x.f0.size) (by omega) (by omega)) ?_)
    unfold szRes
    by_cases hb : ((budSS x.f1 : Nat) : Int) ≤ left - x.f0.size
    · rw [if_pos hb]
      refine ev_neg (by omega) (Ev.bind (szE_all x.f2 q3 (left - x.f0.size - budSS x.f1) (by omega) (by omega)) ?_)
      unfold szRes
      by_cases hb2 : ((budE x.f2 : Nat) : Int) ≤ left - x.f0.size - budSS x.f1
      · rw [if_pos hb2]
        refine ev_neg (by omega) (ev_cast ?_ (Ev.now _))
        rw [if_pos (by omega)]; omega
      · rw [if_neg hb2]
        refine ev_pos (by omega) (ev_cast ?_ (Ev.now _))
        rw [if_neg (by omega)]
    · rw [if_neg hb]
      refine ev_pos (by omega) (ev_cast ?_ (Ev.now _))
      rw [if_neg (by omega)]
theorem szFuS_ev (l : List S51) (hl : (l.length : Int) ≤ 9223372036854775807) (hw : ∀ y ∈ l, wf51 y) (left : Int) (h0 : 0 ≤ left) (h1 : left ≤ 1048576) : Ev (fun k => laws_szFunS.f k l left) (szRes left (budFuS l)) := by
  unfold laws_szFunS.f budFuS
  rw [w64 _ (by omega) (by omega)]
  by_cases hc : left - (l.length : Int) < 0
  · refine ev_pos hc (ev_cast ?_ (Ev.now _))
    unfold szRes; rw [if_neg (by omega)]
  · refine ev_neg hc (ev_cast ?_ (sz_loopG (fun k left i => laws_szFunS.l0 k l left i) budFu l ?_ ?_ l.length 0 (left - l.length) (by omega) (by omega) (by omega)))
    · rw [List.drop_zero]
      unfold szRes
      by_cases hb : (sumB budFu l : Int) ≤ left - l.length
      · rw [if_pos hb, if_pos (by omega)]; omega
      · rw [if_neg hb, if_neg (by omega)]
    · intro i hi left r q0 q1 hr hn
      have e := szFu_ev l[i] (hw _ (List.getElem_mem hi)) left q0 q1
      have hrd := rd_lu l i hi
      generalize l[i] = c at *
      refine Ev.step (f := fun k => (laws_szFun.f k c.f0 c.f1 c.f2.f0 c.f2.f1 c.f2.f2 c.f2.f3 c.f2.f4 left).bind fun t => (if t < 0 then (some (-1)) else (laws_szFunS.l0 k l t (wrap64 ((i : Int) + 1))))) (fun k => ?_) (Ev.bind e ?_)
      · simp only [laws_szFunS.l0]; rw [if_pos (by omega), if_pos (by omega), hrd]
      · rw [w64 _ (by omega) (by omega)]
        unfold szRes
        by_cases hb : (budFu c : Int) ≤ left
        · rw [if_pos hb]; exact ev_neg (by omega) (hr hb)
        · rw [if_neg hb]; exact ev_pos (by omega) (ev_cast (hn hb).symm (Ev.now _))
    · intro left
      refine Ev.step (f := fun _ => some left) (fun k => ?_) (Ev.now _)
      simp only [laws_szFunS.l0]; rw [if_neg (by omega)]
theorem szMo_ev (l : List S51) (hl : (l.length : Int) ≤ 9223372036854775807) (hw : ∀ y ∈ l, wf51 y) (left : Int) (h0 : 0 ≤ left) (h1 : left ≤ 1048576) : Ev (fun k => laws_szModule.f k l left) (szRes left (budFuS l)) := by
  unfold laws_szModule.f
  refine Ev.bind (szFuS_ev l hl hw left h0 h1) ?_
  unfold szRes
  by_cases hb : (budFuS l : Int) ≤ left
  · rw [if_pos hb]; exact ev_neg (by omega) (Ev.now _)
  · rw [if_neg hb]; exact ev_pos (by omega) (Ev.now _)
theorem toES_of (l : List S49) (hl : (l.length : Int) ≤ 1048576)
    (h : ∀ y ∈ l, Ev (fun k => laws_toExpr.f k y.f0 y.f1 y.f2 y.f3 y.f4) (y.f0, y.f1, y.f2, cvEL y.f3, cvCL y.f4)) : Ev (fun k => laws_toExprS.f k l) (cvEL l) := by
  rw [cvEL_map]
  refine Ev.step (f := fun k => laws_toExprS.l0 k l (List.replicate l.length z38) 0) (fun k => ?_) (map_loop0 (fun k x i => laws_toExprS.l0 k l x i) cvE l _ ?_ ?_)
  · simp only [laws_toExprS.f]; rw [if_pos (by omega), if_pos (by omega), Int.toNat_natCast]
  · intro i hi x r hx e
    have e0 := h _ (List.getElem_mem hi)
    have hrd := rdLE l i hi
    generalize l[i] = y at *
    refine Ev.step (f := fun k => (laws_toExpr.f k y.f0 y.f1 y.f2 y.f3 y.f4).bind fun bt126 => (if (i : Int) < (x.length : Int) then (laws_toExprS.l0 k l (x.set ((i : Int)).toNat (⟨bt126.1, bt126.2.1, bt126.2.2.1, bt126.2.2.2.1, bt126.2.2.2.2⟩ : S38)) (wrap64 ((i : Int) + 1))) else none)) (fun k => ?_) (Ev.bind e0 (ev_pos (by omega) ?_))
    · simp only [laws_toExprS.l0]; rw [if_pos (by omega), if_pos (by omega), hrd]
    · rw [w64 _ (by omega) (by omega), Int.toNat_natCast]
      have ec : (⟨y.f0, y.f1, y.f2, cvEL y.f3, cvCL y.f4⟩ : S38) = cvE y := by cases y; rw [cvE]
      simp only [ec]
      exact e
  · intro x hx
    refine Ev.step (f := fun _ => some x) (fun k => ?_) (Ev.now _)
    simp only [laws_toExprS.l0]; rw [if_neg (by omega)]
theorem toCS_of (l : List (P68 S49)) (hl : (l.length : Int) ≤ 1048576)
    (h : ∀ c ∈ l, Ev (fun k => laws_toExpr.f k c.f0.f0 c.f0.f1 c.f0.f2 c.f0.f3 c.f0.f4) (c.f0.f0, c.f0.f1, c.f0.f2, cvEL c.f0.f3, cvCL c.f0.f4) ∧ Ev (fun k => laws_toExpr.f k c.f1.f0 c.f1.f1 c.f1.f2 c.f1.f3 c.f1.f4) (c.f1.f0, c.f1.f1, c.f1.f2, cvEL c.f1.f3, cvCL c.f1.f4)) : Ev (fun k => laws_toClauseS.f k l) (cvCL l) := by
  rw [cvCL_map]
  refine Ev.step (f := fun k => laws_toClauseS.l0 k l (List.replicate l.length z70) 0) (fun k => ?_) (map_loop0 (fun k x i => laws_toClauseS.l0 k l x i) cvC l _ ?_ ?_)
  · simp only [laws_toClauseS.f]; rw [if_pos (by omega), if_pos (by omega), Int.toNat_natCast]
  · intro i hi x r hx e
    have e0 := h _ (List.getElem_mem hi)
    have hrd := rdLC l i hi
    generalize l[i] = c at *
    have e1 : Ev (fun k => laws_toClause.f k c.f0.f0 c.f0.f1 c.f0.f2 c.f0.f3 c.f0.f4 c.f1.f0 c.f1.f1 c.f1.f2 c.f1.f3 c.f1.f4) (c.f0.f0, c.f0.f1, c.f0.f2, cvEL c.f0.f3, cvCL c.f0.f4, c.f1.f0, c.f1.f1, c.f1.f2, cvEL c.f1.f3, cvCL c.f1.f4) :=
      Ev.step (fun k => by simp only [laws_toClause.f]; rfl) (Ev.bind e0.1 (Ev.bind e0.2 (ev_of (o := some (c.f0.f0, c.f0.f1, c.f0.f2, cvEL c.f0.f3, cvCL c.f0.f4, c.f1.f0, c.f1.f1, c.f1.f2, cvEL c.f1.f3, cvCL c.f1.f4)) rfl)))
    refine Ev.step (f := fun k => (laws_toClause.f k c.f0.f0 c.f0.f1 c.f0.f2 c.f0.f3 c.f0.f4 c.f1.f0 c.f1.f1 c.f1.f2 c.f1.f3 c.f1.f4).bind fun bt161 => (if (i : Int) < (x.length : Int) then (laws_toClauseS.l0 k l (x.set ((i : Int)).toNat (⟨(⟨bt161.1, bt161.2.1, bt161.2.2.1, bt161.2.2.2.1, bt161.2.2.2.2.1⟩ : S38), (⟨bt161.2.2.2.2.2.1, bt161.2.2.2.2.2.2.1, bt161.2.2.2.2.2.2.2.1, bt161.2.2.2.2.2.2.2.2.1, bt161.2.2.2.2.2.2.2.2.2⟩ : S38)⟩ : S70)) (wrap64 ((i : Int) + 1))) else none)) (fun k => ?_) (Ev.bind e1 (ev_pos (by omega) ?_))
    · simp only [laws_toClauseS.l0]; rw [if_pos (by omega), if_pos (by omega), hrd]
    · rw [w64 _ (by omega) (by omega), Int.toNat_natCast]
      obtain ⟨p, q⟩ := c
      have ec : (⟨(⟨p.f0, p.f1, p.f2, cvEL p.f3, cvCL p.f4⟩ : S38), (⟨q.f0, q.f1, q.f2, cvEL q.f3, cvCL q.f4⟩ : S38)⟩ : S70) = cvC ⟨p, q⟩ := by cases p; cases q; rw [cvC, cvE, cvE]
      simp only [ec]
      exact e
  · intro x hx
    refine Ev.step (f := fun _ => some x) (fun k => ?_) (Ev.now _)
    simp only [laws_toClauseS.l0]; rw [if_neg (by omega)]
theorem budEL_mem (l : List S49) (x : S49) (h : x ∈ l) : budE x ≤ budEL l := by have := sumB_mem budE l x h; rwa [sumE] at this
theorem budCL_mem (l : List (P68 S49)) (c : P68 S49) (h : c ∈ l) : budE c.f0 + budE c.f1 ≤ budCL l := by
  have := sumB_mem budCc l c h
  rw [sumC] at this
  have hbc : budCc c = budE c.f0 + budE c.f1 := by cases c; rw [budCc]
  omega
theorem toE_all : ∀ x, (budE x : Int) ≤ 1048576 → Ev (fun k => laws_toExpr.f k x.f0 x.f1 x.f2 x.f3 x.f4) (x.f0, x.f1, x.f2, cvEL x.f3, cvCL x.f4) := by
  refine indLE ?_
  intro a b s l m ih ihc hb
  rw [budE] at hb
  refine Ev.step (f := fun k => (laws_toExprS.f k l).bind fun t183 => ((laws_toClauseS.f k m).bind fun t186 => (some (a, b, s, t183, t186)))) (fun k => ?_) (Ev.bind (toES_of l (by omega) (fun y hy => ih y hy (by have := budEL_mem l y hy; omega))) (Ev.bind (toCS_of m (by omega) (fun c hc => ⟨(ihc c hc).1 (by have := budCL_mem m c hc; omega), (ihc c hc).2 (by have := budCL_mem m c hc; omega)⟩)) (Ev.now _)))
  simp only [laws_toExpr.f]
theorem toSS_ev (l : List ByteArray) (hl : (l.length : Int) ≤ 1048576) : Ev (fun k => laws_toStringS.f k l) l := by
  have e : l = l.map id := by simp
  unfold laws_toStringS.f
  refine ev_pos (by omega) (ev_pos (by omega) ?_)
  rw [Int.toNat_natCast]
  refine ev_cast e.symm (map_loop0 (fun k x i => laws_toStringS.l0 k l x i) id l _ ?_ ?_)
  · intro i hi x r hx er
    refine Ev.step (fun k => ?_) er
    simp only [laws_toStringS.l0]
    rw [if_pos (by omega), if_pos (by omega), if_pos (by omega), rdS l i hi, w64 _ (by omega) (by omega), Int.toNat_natCast]
    rfl
  · intro x hx
    refine Ev.step (f := fun _ => some x) (fun k => ?_) (Ev.now _)
    simp only [laws_toStringS.l0]; rw [if_neg (by omega)]
theorem toFu_ev (x : S51) (hb : (budFu x : Int) ≤ 1048576) : Ev (fun k => laws_toFun.f k x.f0 x.f1 x.f2.f0 x.f2.f1 x.f2.f2 x.f2.f3 x.f2.f4) (x.f0, x.f1, x.f2.f0, x.f2.f1, x.f2.f2, cvEL x.f2.f3, cvCL x.f2.f4) := by
  unfold budFu budSS at hb
  unfold laws_toFun.f
  exact Ev.bind (toSS_ev x.f1 (by omega)) (Ev.bind (toE_all x.f2 (by omega)) (Ev.now _))
theorem toFuS_ev (l : List S51) (hb : (budFuS l : Int) ≤ 1048576) : Ev (fun k => laws_toFunS.f k l) (l.map cvFu) := by
  unfold budFuS at hb
  unfold laws_toFunS.f
  refine ev_pos (by omega) (ev_pos (by omega) ?_)
  rw [Int.toNat_natCast]
  refine map_loop0 (fun k x i => laws_toFunS.l0 k l x i) cvFu l _ ?_ ?_
  · intro i hi x r hx er
    have e0 := toFu_ev l[i] (by have := sumB_mem budFu l _ (List.getElem_mem hi); omega)
    have hrd := rd_lu l i hi
    generalize l[i] = y at *
    refine Ev.step (f := fun k => (laws_toFun.f k y.f0 y.f1 y.f2.f0 y.f2.f1 y.f2.f2 y.f2.f3 y.f2.f4).bind fun bt => (if (i : Int) < (x.length : Int) then (laws_toFunS.l0 k l (x.set (i : Int).toNat (⟨bt.1, bt.2.1, (⟨bt.2.2.1, bt.2.2.2.1, bt.2.2.2.2.1, bt.2.2.2.2.2.1, bt.2.2.2.2.2.2⟩ : S38)⟩ : S40)) (wrap64 ((i : Int) + 1))) else none)) (fun k => ?_) (Ev.bind e0 (ev_pos (by omega) ?_))
    · simp only [laws_toFunS.l0]; rw [if_pos (by omega), if_pos (by omega), hrd]
    · rw [w64 _ (by omega) (by omega), Int.toNat_natCast]
      have ec : (⟨y.f0, y.f1, (⟨y.f2.f0, y.f2.f1, y.f2.f2, cvEL y.f2.f3, cvCL y.f2.f4⟩ : S38)⟩ : S40) = cvFu y := by
        obtain ⟨a, b, ⟨c, d, e, f, g⟩⟩ := y
        unfold cvFu; simp only []; rw [cvE]
      simp only [ec]
      exact er
  · intro x hx
    refine Ev.step (f := fun _ => some x) (fun k => ?_) (Ev.now _)
    simp only [laws_toFunS.l0]; rw [if_neg (by omega)]
theorem toMo_ev (l : List S51) (hb : (budFuS l : Int) ≤ 1048576) : Ev (fun k => laws_toModule.f k l) (l.map cvFu) := by
  unfold laws_toModule.f
  exact Ev.bind (toFuS_ev l hb) (Ev.now _)
theorem eqES_of (l : List S38) (hl : (l.length : Int) ≤ 4194304) (h : ∀ y ∈ l, Ev (fun k => laws_eqExpr.f k y.f0 y.f1 y.f2 y.f3 y.f4 y.f0 y.f1 y.f2 y.f3 y.f4) true) : Ev (fun k => laws_eqExprS.f k l l) true := by
  refine Ev.step (f := fun k => laws_eqExprS.l0 k l l 0) (fun k => ?_) (ev_cast ?_ (all_loop (fun k i => laws_eqExprS.l0 k l l i) (fun _ => true) l.length ?_ ?_ l.length 0 (by omega)))
  · simp only [laws_eqExprS.f]; rw [if_pos trivial]
  · unfold allFrom; simp
  · intro i hi r hr _
    have e := h _ (List.getElem_mem hi)
    have hrd := rdE l i hi
    generalize l[i] = y at *
    refine Ev.step (f := fun k => (laws_eqExpr.f k y.f0 y.f1 y.f2 y.f3 y.f4 y.f0 y.f1 y.f2 y.f3 y.f4).bind fun t209 => (if t209 = true then (laws_eqExprS.l0 k l l (wrap64 ((i : Int) + 1))) else (some false))) (fun k => ?_) (Ev.bind e (ev_pos rfl ?_))
    · simp only [laws_eqExprS.l0]; rw [if_pos (by omega), if_pos (by omega), if_pos (by omega), hrd]
    · rw [w64 _ (by omega) (by omega)]; exact hr rfl
  · refine Ev.step (f := fun _ => some true) (fun k => ?_) (Ev.now _)
    simp only [laws_eqExprS.l0]; rw [if_neg (by omega)]
theorem eqCS_of (l : List (P70 S38)) (hl : (l.length : Int) ≤ 4194304) (h : ∀ c ∈ l, Ev (fun k => laws_eqExpr.f k c.f0.f0 c.f0.f1 c.f0.f2 c.f0.f3 c.f0.f4 c.f0.f0 c.f0.f1 c.f0.f2 c.f0.f3 c.f0.f4) true ∧ Ev (fun k => laws_eqExpr.f k c.f1.f0 c.f1.f1 c.f1.f2 c.f1.f3 c.f1.f4 c.f1.f0 c.f1.f1 c.f1.f2 c.f1.f3 c.f1.f4) true) : Ev (fun k => laws_eqClauseS.f k l l) true := by
  refine Ev.step (f := fun k => laws_eqClauseS.l0 k l l 0) (fun k => ?_) (ev_cast ?_ (all_loop (fun k i => laws_eqClauseS.l0 k l l i) (fun _ => true) l.length ?_ ?_ l.length 0 (by omega)))
  · simp only [laws_eqClauseS.f]; rw [if_pos trivial]
  · unfold allFrom; simp
  · intro i hi r hr _
    have e := h _ (List.getElem_mem hi)
    have hrd := rdC l i hi
    generalize l[i] = c at *
    have e1 : Ev (fun k => laws_eqClause.f k c.f0.f0 c.f0.f1 c.f0.f2 c.f0.f3 c.f0.f4 c.f1.f0 c.f1.f1 c.f1.f2 c.f1.f3 c.f1.f4 c.f0.f0 c.f0.f1 c.f0.f2 c.f0.f3 c.f0.f4 c.f1.f0 c.f1.f1 c.f1.f2 c.f1.f3 c.f1.f4) true :=
      Ev.step (fun k => by simp only [laws_eqClause.f]; rfl) (Ev.bind e.1 (ev_pos rfl (Ev.bind e.2 (ev_pos rfl (Ev.now _)))))
    refine Ev.step (f := fun k => (laws_eqClause.f k c.f0.f0 c.f0.f1 c.f0.f2 c.f0.f3 c.f0.f4 c.f1.f0 c.f1.f1 c.f1.f2 c.f1.f3 c.f1.f4 c.f0.f0 c.f0.f1 c.f0.f2 c.f0.f3 c.f0.f4 c.f1.f0 c.f1.f1 c.f1.f2 c.f1.f3 c.f1.f4).bind fun t209 => (if t209 = true then (laws_eqClauseS.l0 k l l (wrap64 ((i : Int) + 1))) else (some false))) (fun k => ?_) (Ev.bind e1 (ev_pos rfl ?_))
    · simp only [laws_eqClauseS.l0]; rw [if_pos (by omega), if_pos (by omega), if_pos (by omega), hrd]
    · rw [w64 _ (by omega) (by omega)]; exact hr rfl
  · refine Ev.step (f := fun _ => some true) (fun k => ?_) (Ev.now _)
    simp only [laws_eqClauseS.l0]; rw [if_neg (by omega)]
theorem eqE_all : ∀ x, (budX x : Int) ≤ 4194304 → Ev (fun k => laws_eqExpr.f k x.f0 x.f1 x.f2 x.f3 x.f4 x.f0 x.f1 x.f2 x.f3 x.f4) true := by
  refine indE ?_
  intro a b s l m ih ihc hb
  rw [budX] at hb
  refine Ev.step (f := fun k => (laws_eqExprS.f k l l).bind fun t219 => (if t219 = true then ((laws_eqClauseS.f k m m).bind fun t220 => (if t220 = true then (some true) else (some false))) else (some false))) (fun k => ?_) (Ev.bind (eqES_of l (by omega) (fun y hy => ih y hy (by have := budXL_mem l y hy; omega))) (ev_pos rfl (Ev.bind (eqCS_of m (by omega) (fun c hc => ⟨(ihc c hc).1 (by have := budXC_mem m c hc; omega), (ihc c hc).2 (by have := budXC_mem m c hc; omega)⟩)) (ev_pos rfl (Ev.now _)))))
  simp only [laws_eqExpr.f]
  simp
theorem laws_eqStringS_l (x : List ByteArray) (hl : (x.length : Int) ≤ 281474976710656) (d : Nat) : ∀ (i : Nat), i + d = x.length → Ev (fun k => laws_eqStringS.l0 k x x i) true := by
  induction d with
  | zero =>
    intro i hi
    refine Ev.step (f := fun _ => some true) (fun k => ?_) (Ev.now _)
    simp only [laws_eqStringS.l0]; rw [if_neg (by omega)]
  | succ d ih =>
    intro i hi
    refine Ev.step (fun k => ?_) (ih (i + 1) (by omega))
    simp only [laws_eqStringS.l0]
    rw [if_pos (by omega), if_pos (by omega), if_pos (by omega), if_pos trivial, w64 _ (by omega) (by omega)]
    rfl
theorem laws_eqStringS_ev (x : List ByteArray) (hl : (x.length : Int) ≤ 281474976710656) : Ev (fun k => laws_eqStringS.f k x x) true := by
  unfold laws_eqStringS.f
  exact ev_pos rfl (laws_eqStringS_l x hl x.length 0 (by omega))
theorem eqFu_ev (x : S40) (hb : (budFu' x : Int) ≤ 4194304) : Ev (fun k => laws_eqFun.f k x.f0 x.f1 x.f2.f0 x.f2.f1 x.f2.f2 x.f2.f3 x.f2.f4 x.f0 x.f1 x.f2.f0 x.f2.f1 x.f2.f2 x.f2.f3 x.f2.f4) true := by
  unfold budFu' budSS at hb
  unfold laws_eqFun.f
  exact ev_pos rfl (Ev.bind (laws_eqStringS_ev x.f1 (by omega)) (ev_pos rfl (Ev.bind (eqE_all x.f2 (by omega)) (ev_pos rfl (Ev.now _)))))
theorem eqMo_ev (l : List S40) (hl : (l.length : Int) ≤ 4194304) (hb : ∀ y ∈ l, (budFu' y : Int) ≤ 4194304) : Ev (fun k => laws_eqModule.f k l l) true := by
  unfold laws_eqModule.f
  have e : Ev (fun k => laws_eqFunS.f k l l) true := by
    unfold laws_eqFunS.f
    refine ev_pos rfl (ev_cast ?_ (all_loop (fun k i => laws_eqFunS.l0 k l l i) (fun _ => true) l.length ?_ ?_ l.length 0 (by omega)))
    · unfold allFrom; simp
    · intro i hi r hr hn
      have e0 := eqFu_ev l[i] (hb _ (List.getElem_mem hi))
      have hrd := rd_iu l i hi
      generalize l[i] = y at *
      refine Ev.step (f := fun k => (laws_eqFun.f k y.f0 y.f1 y.f2.f0 y.f2.f1 y.f2.f2 y.f2.f3 y.f2.f4 y.f0 y.f1 y.f2.f0 y.f2.f1 y.f2.f2 y.f2.f3 y.f2.f4).bind fun t => (if t = true then (laws_eqFunS.l0 k l l (wrap64 ((i : Int) + 1))) else (some false))) (fun k => ?_) (Ev.bind e0 (ev_pos rfl ?_))
      · simp only [laws_eqFunS.l0]; rw [if_pos (by omega), if_pos (by omega), if_pos (by omega), hrd]
      · rw [w64 _ (by omega) (by omega)]; exact hr rfl
    · refine Ev.step (f := fun _ => some true) (fun k => ?_) (Ev.now _)
      simp only [laws_eqFunS.l0]; rw [if_neg (by omega)]
  exact Ev.bind e (ev_pos rfl (Ev.now _))
theorem spec_FunAt_l (l : List S40) (hl : (l.length : Int) ≤ 1048576) (a : ByteArray) (d : Nat) : ∀ (i : Nat), i + d = l.length → Ev (fun k => spec_FunAt.l0 k a i l) (impl_FunAt.ix (l.drop i) a i) := by
  induction d with
  | zero =>
    intro i hi
    rw [List.drop_eq_nil_of_le (by omega), impl_FunAt.ix]
    refine Ev.step (f := fun _ => some (-1)) (fun k => ?_) (Ev.now _)
    simp only [spec_FunAt.l0]; rw [if_neg (by omega)]
  | succ d ih =>
    intro i hi
    have hlt : i < l.length := by omega
    rw [List.drop_eq_getElem_cons hlt, impl_FunAt.ix]
    by_cases h : l[i].f0.toList = a.toList
    · rw [if_pos h]
      refine Ev.step (f := fun _ => some (i : Int)) (fun k => ?_) (Ev.now _)
      simp only [spec_FunAt.l0]; rw [if_pos (by omega), if_pos (by omega), rd_iu l i hlt, if_pos h]
    · rw [if_neg h]
      refine Ev.step (fun k => ?_) (ih (i + 1) (by omega))
      simp only [spec_FunAt.l0]; rw [if_pos (by omega), if_pos (by omega), rd_iu l i hlt, if_neg h, w64 _ (by omega) (by omega)]
      rfl
theorem spec_FunAt_ev (l : List S40) (hl : (l.length : Int) ≤ 1048576) (a : ByteArray) : Ev (fun k => spec_FunAt.f k l a) (impl_FunAt.ix l a 0) := by
  unfold spec_FunAt.f
  exact spec_FunAt_l l hl a l.length 0 (by omega)
theorem impl_FunAt_eq (l : List S40) (hl : (l.length : Int) ≤ 1048576) (a : ByteArray) : impl_FunAt.f l a = some (impl_FunAt.ix l a 0) := by
  unfold impl_FunAt.f
  rw [if_pos (by omega)]
theorem FnExactFunAt : laws_FnExactFunAt.Pure := by
  intro l a hw ha
  refine Ev.rounds (g := fun k => laws_FnExactFunAt.f k l a) ?_
  unfold wf24 at hw
  obtain ⟨hl, hw⟩ := hw
  unfold maxLen at hl
  unfold laws_FnExactFunAt.f
  by_cases hs : (1048576 : Int) < (a.size : Int)
  · first
    | exact ev_pos hs (Ev.now _)
    | exact ev_pos (by omega) (Ev.now _)
  · refine ev_neg (by omega) ?_
    refine Ev.step (fun k => by simp only [laws_FnExactFunAt.j0]; rfl) ?_
    refine (Ev.bind (szMo_ev l (by omega) hw 1048576 (by omega) (by omega)) ?_)
    unfold szRes
    by_cases hb : (budFuS l : Int) ≤ 1048576
    · rw [if_pos hb]
      have hb' := hb
      unfold budFuS at hb'
      have hm : ((l.map cvFu).length : Int) ≤ 1048576 := by rw [List.length_map]; omega
      have e := toMo_ev l hb
      refine ev_neg (by omega) ?_
      refine Ev.step (fun k => by simp only [laws_FnExactFunAt.j1]; rfl) ?_
      refine (Ev.bind e (Ev.bind (spec_FunAt_ev (l.map cvFu) hm a) (Ev.bind e ?_)))
      rw [impl_FunAt_eq _ hm]
      refine Ev.bind (Ev.now _) (ev_pos rfl (Ev.bind e (Ev.bind (eqMo_ev (l.map cvFu) (by omega) ?_) (ev_pos rfl (Ev.now _)))))
      intro y hy
      obtain ⟨x, hx, rfl⟩ := List.mem_map.1 hy
      have := sumB_mem budFu l x hx
      rw [budFu_cv]; omega
    · rw [if_neg hb]
      exact ev_pos (by omega) (Ev.now _)

end Go.Proofs.Ytgdpghifhlghhaa.Pure
