/- What the law FnExactBindOf of this seat says holds for every input that its row speaks of; no further condition. -/
import Derived.Test.YtmcmhpiknhjiaaaQFnExactBindOfx7
import Derived.Lib.Strings
set_option linter.unusedVariables false
set_option linter.unusedSimpArgs false
namespace Go.Proofs.Ytmcmhpiknhjiaaa.Pure
open Go.RowKit Go.Proofs.Ytmcmhpiknhjiaaa.QFnExactBindOf Go.Proofs.YtmcmhpiknhjiaaaW.PrintWords Go.Proofs.YtmcmhpiknhjiaaaW.PrintLast Go.Proofs.YtmcmhpiknhjiaaaW.PrintMore

theorem ev_pos {α : Type} {c : Prop} [Decidable c] {A B : Nat → Option α} {r : α} (h : c) (e : Ev A r) : Ev (fun k => if c then A k else B k) r := by
  obtain ⟨K, hK⟩ := e
  exact ⟨K, fun k hk => by simp only [if_pos h]; exact hK k hk⟩
theorem ev_neg {α : Type} {c : Prop} [Decidable c] {A B : Nat → Option α} {r : α} (h : ¬ c) (e : Ev B r) : Ev (fun k => if c then A k else B k) r := by
  obtain ⟨K, hK⟩ := e
  exact ⟨K, fun k hk => by simp only [if_neg h]; exact hK k hk⟩
theorem ev_cast {α : Type} {g : Nat → Option α} {r r' : α} (h : r = r') (e : Ev g r) : Ev g r' := h ▸ e
theorem w64 (n : Int) (h0 : -9223372036854775808 ≤ n) (h1 : n ≤ 9223372036854775807) : wrap64 n = n := by unfold wrap64; omega
theorem indI {P : S26 → Prop} (h : ∀ a b s l, (∀ y ∈ l, P y) → P ⟨a, b, s, l⟩) : ∀ x, P x := by
  intro x
  refine S26.rec (motive_1 := P) (motive_2 := fun l => ∀ y ∈ l, P y) ?_ ?_ ?_ x
  · intro a b s l hl
    exact h a b s l hl
  · intro y hy; cases hy
  · intro x r hx hr y hy
    rcases List.mem_cons.1 hy with rfl | hy
    · exact hx
    · exact hr y hy
mutual
def budI : S26 → Nat
  | ⟨_, _, s, l⟩ => s.size + budIL l
def budIL : List S26 → Nat
  | [] => 0
  | x :: r => 1 + budI x + budIL r
end
theorem budI_mk (a b : Int) (s : ByteArray) (l : List S26) : budI ⟨a, b, s, l⟩ = s.size + budIL l := by rw [budI]
theorem budIL_len : ∀ l : List S26, l.length ≤ budIL l
  | [] => by simp [budIL]
  | x :: r => by
    have := budIL_len r
    rw [budIL, List.length_cons]; omega
theorem rdI_mem (l : List S26) (i : Nat) (h : i < l.length) : rd_T26 l i ∈ l := by
  unfold rd_T26
  simp [List.getD_eq_getElem?_getD, List.getElem?_eq_getElem h]
theorem budI_mem : ∀ (l : List S26) (x : S26), x ∈ l → budI x + 1 ≤ budIL l
  | [], x, h => by cases h
  | y :: r, x, h => by
    rw [budIL]
    rcases List.mem_cons.1 h with rfl | h
    · omega
    · have := budI_mem r x h; omega
theorem etaI (x : S26) : (⟨x.f0, x.f1, x.f2, x.f3⟩ : S26) = x := by cases x; rfl
theorem indL {P : S39 → Prop} (h : ∀ a b s l, (∀ y ∈ l, P y) → P ⟨a, b, s, l⟩) : ∀ x, P x := by
  intro x
  refine S39.rec (motive_1 := P) (motive_2 := fun l => ∀ y ∈ l, P y) ?_ ?_ ?_ x
  · intro a b s l hl
    exact h a b s l hl
  · intro y hy; cases hy
  · intro x r hx hr y hy
    rcases List.mem_cons.1 hy with rfl | hy
    · exact hx
    · exact hr y hy
mutual
def budL : S39 → Nat
  | ⟨_, _, s, l⟩ => s.size + (l.length + budLE l)
def budLE : List S39 → Nat
  | [] => 0
  | x :: r => budL x + budLE r
end
mutual
def cv : S39 → S26
  | ⟨a, b, s, l⟩ => ⟨a, b, s, cvL l⟩
def cvL : List S39 → List S26
  | [] => []
  | x :: r => cv x :: cvL r
end
theorem cvL_len : ∀ l, (cvL l).length = l.length
  | [] => rfl
  | x :: r => by rw [cvL, List.length_cons, List.length_cons, cvL_len r]
theorem cvL_map : ∀ l, cvL l = l.map cv
  | [] => rfl
  | x :: r => by rw [cvL, List.map_cons, cvL_map r]
mutual
theorem bud_cv : ∀ x, budI (cv x) = budL x
  | ⟨a, b, s, l⟩ => by rw [cv, budI, budL, bud_cvL l]
theorem bud_cvL : ∀ l, budIL (cvL l) = l.length + budLE l
  | [] => by rw [cvL, budIL, budLE]; rfl
  | x :: r => by rw [cvL, budIL, budLE, bud_cv x, bud_cvL r, List.length_cons]; omega
end
theorem rdL_mem (l : List S39) (i : Nat) (h : i < l.length) : rd_T39 l i ∈ l := by
  unfold rd_T39
  simp [List.getD_eq_getElem?_getD, List.getElem?_eq_getElem h]
theorem dropL (l : List S39) (i : Nat) (h : i < l.length) : l.drop i = rd_T39 l i :: l.drop (i + 1) := by
  rw [List.drop_eq_getElem_cons h]
  unfold rd_T39
  simp [List.getElem?_eq_getElem h]
theorem wfL_mem (l : List S39) (h : wfl39 l) : ∀ x ∈ l, wf39 x := (wfl39_iff l).1 h
theorem wfL_mk {a b : Int} {s : ByteArray} {l : List S39} (h : wf39 ⟨a, b, s, l⟩) : (Lit.int .i64 a).wf = true ∧ (Lit.int .i64 b).wf = true ∧ (s.size : Int) ≤ 9223372036854775807 ∧ (l.length : Int) ≤ 9223372036854775807 ∧ ∀ x ∈ l, wf39 x := by
  unfold wf39 at h
  obtain ⟨h0, h1, h2, h3, h4⟩ := h
  unfold maxLen at h2 h3
  exact ⟨h0, h1, by omega, by omega, wfL_mem l h4⟩
def szRes (left : Int) (b : Nat) : Int := if (b : Int) ≤ left then left - b else -1
theorem getDG {α : Type} (z : α) (l : List α) (i : Nat) (h : i < l.length) : l.getD ((i : Int)).toNat z = l[i] := by
  simp [List.getD_eq_getElem?_getD, List.getElem?_eq_getElem h]
theorem map_loop {α β : Type} (L : Nat → List β → Int → Option (List β)) (f : α → β) (l : List α)
    (hstep : ∀ (i : Nat) (h : i < l.length) (x : List β) (r : List β), x.length = l.length → Ev (fun k => L k (x.set i (f l[i])) ((i + 1 : Nat) : Int)) r → Ev (fun k => L k x (i : Int)) r)
    (hend : ∀ x : List β, x.length = l.length → Ev (fun k => L k x (l.length : Int)) x) (d : Nat) :
    ∀ (i : Nat) (x : List β), i + d = l.length → x.length = l.length → x.take i = (l.map f).take i → Ev (fun k => L k x (i : Int)) (l.map f) := by
  induction d with
  | zero =>
    intro i x hi hx ht
    have e : i = l.length := by omega
    subst e
    refine ev_cast ?_ (hend x hx)
    rwa [List.take_of_length_le (by omega), List.take_of_length_le (by rw [List.length_map]; omega)] at ht
  | succ d ih =>
    intro i x hi hx ht
    have hlt : i < l.length := by omega
    refine hstep i hlt x _ hx (ih (i + 1) _ (by omega) (by simpa using hx) ?_)
    rw [List.take_succ_eq_append_getElem (by simpa using (by omega : i < x.length)), List.take_set_of_le (Nat.le_refl i), ht, List.take_succ_eq_append_getElem (by simpa using hlt)]
    simp
theorem map_loop0 {α β : Type} (L : Nat → List β → Int → Option (List β)) (f : α → β) (l : List α) (z : β)
    (hstep : ∀ (i : Nat) (h : i < l.length) (x : List β) (r : List β), x.length = l.length → Ev (fun k => L k (x.set i (f l[i])) ((i + 1 : Nat) : Int)) r → Ev (fun k => L k x (i : Int)) r)
    (hend : ∀ x : List β, x.length = l.length → Ev (fun k => L k x (l.length : Int)) x) : Ev (fun k => L k (List.replicate l.length z) 0) (l.map f) :=
  map_loop L f l hstep hend l.length 0 (List.replicate l.length z) (by omega) (by simp) (by simp)
def sumB {α : Type} (bud : α → Nat) : List α → Nat
  | [] => 0
  | x :: r => bud x + sumB bud r
theorem sumB_drop {α : Type} (bud : α → Nat) (l : List α) (i : Nat) (h : i < l.length) : sumB bud (l.drop i) = bud l[i] + sumB bud (l.drop (i + 1)) := by
  rw [List.drop_eq_getElem_cons h, sumB]
theorem sumB_mem {α : Type} (bud : α → Nat) : ∀ (l : List α) (x : α), x ∈ l → bud x ≤ sumB bud l
  | [], x, h => by cases h
  | y :: r, x, h => by
    rw [sumB]
    rcases List.mem_cons.1 h with rfl | h
    · omega
    · have := sumB_mem bud r x h; omega
theorem sz_loopG {α : Type} (L : Nat → Int → Int → Option Int) (bud : α → Nat) (l : List α)
    (hstep : ∀ (i : Nat) (h : i < l.length) (left r : Int), 0 ≤ left → left ≤ 1048576 → ((bud l[i] : Int) ≤ left → Ev (fun k => L k (left - bud l[i]) ((i + 1 : Nat) : Int)) r) → (¬ (bud l[i] : Int) ≤ left → r = -1) → Ev (fun k => L k left (i : Int)) r)
    (hend : ∀ left : Int, Ev (fun k => L k left (l.length : Int)) left) (d : Nat) :
    ∀ (i : Nat) (left : Int), i + d = l.length → 0 ≤ left → left ≤ 1048576 → Ev (fun k => L k left (i : Int)) (szRes left (sumB bud (l.drop i))) := by
  induction d with
  | zero =>
    intro i left hi h0 h1
    have e : i = l.length := by omega
    subst e
    refine ev_cast ?_ (hend left)
    rw [List.drop_eq_nil_of_le (by omega), sumB]; unfold szRes; rw [if_pos (by omega)]; omega
  | succ d ih =>
    intro i left hi h0 h1
    have hlt : i < l.length := by omega
    rw [sumB_drop bud l i hlt]
    refine hstep i hlt left _ h0 h1 (fun hb => ?_) (fun hb => ?_)
    · refine ev_cast ?_ (ih (i + 1) (left - bud l[i]) (by omega) (by omega) (by omega))
      unfold szRes
      by_cases hc : (sumB bud (l.drop (i + 1)) : Int) ≤ left - bud l[i]
      · rw [if_pos hc, if_pos (by omega)]; omega
      · rw [if_neg hc, if_neg (by omega)]
    · unfold szRes; rw [if_neg (by omega)]
def allFrom (p : Nat → Bool) (i d : Nat) : Bool := (List.range' i d).all p
theorem all_loop (L : Nat → Int → Option Bool) (p : Nat → Bool) (n : Nat)
    (hstep : ∀ (i : Nat), i < n → ∀ r, (p i = true → Ev (fun k => L k ((i + 1 : Nat) : Int)) r) → (p i = false → r = false) → Ev (fun k => L k (i : Int)) r)
    (hend : Ev (fun k => L k (n : Int)) true) (d : Nat) : ∀ i : Nat, i + d = n → Ev (fun k => L k (i : Int)) (allFrom p i d) := by
  induction d with
  | zero =>
    intro i hi
    have e : i = n := by omega
    subst e
    exact hend
  | succ d ih =>
    intro i hi
    refine hstep i (by omega) _ (fun hp => ?_) (fun hp => ?_)
    · refine ev_cast ?_ (ih (i + 1) (by omega))
      unfold allFrom
      rw [List.range'_succ, List.all_cons, hp, Bool.true_and]
    · unfold allFrom
      rw [List.range'_succ, List.all_cons, hp, Bool.false_and]
theorem rd_lb (l : List S41) (i : Nat) (h : i < l.length) : rd_T41 l (i : Int) = l[i] := getDG _ l i h
theorem rd_ib (l : List S43) (i : Nat) (h : i < l.length) : rd_T43 l (i : Int) = l[i] := getDG _ l i h
def budBd (x : S41) : Nat := x.f0.size + budL x.f1
def budBdS (l : List S41) : Nat := l.length + sumB budBd l
def cvBd (x : S41) : S43 := ⟨x.f0, cv x.f1⟩
theorem wfBd_mk {x : S41} (h : wf41 x) : (x.f0.size : Int) ≤ 9223372036854775807 ∧ wf39 x.f1 := by
  obtain ⟨s, t⟩ := x
  unfold wf41 at h
  obtain ⟨h0, h1⟩ := h
  unfold maxLen at h0
  exact ⟨by show (s.size : Int) ≤ _; omega, h1⟩
theorem sz_loop (l : List S39) (hl : (l.length : Int) ≤ 9223372036854775807)
    (h : ∀ y ∈ l, ∀ left : Int, 0 ≤ left → left ≤ 1048576 → Ev (fun k => laws_szTerm.f k y.f0 y.f1 y.f2 y.f3 left) (szRes left (budL y))) (d : Nat) :
    ∀ (i : Nat) (left : Int), i + d = l.length → 0 ≤ left → left ≤ 1048576 → Ev (fun k => laws_szTermS.l0 k l left i) (szRes left (budLE (l.drop i))) := by
  induction d with
  | zero =>
    intro i left hi h0 h1
    refine Ev.step (f := fun _ => some left) (fun k => ?_) (ev_cast ?_ (Ev.now _))
    · simp only [laws_szTermS.l0]; rw [if_neg (by omega)]
    · rw [List.drop_eq_nil_of_le (by omega), budLE]; unfold szRes; rw [if_pos (by omega)]; omega
  | succ d ih =>
    intro i left hi h0 h1
    have hlt : i < l.length := by omega
    have e := h _ (rdL_mem l i hlt) left h0 h1
    rw [dropL l i hlt, budLE]
    generalize hy : rd_T39 l i = y at *
    refine Ev.step (f := fun k => (laws_szTerm.f k y.f0 y.f1 y.f2 y.f3 left).bind fun t102 => (if t102 < 0 then (some (-1)) else (laws_szTermS.l0 k l t102 (wrap64 ((i : Int) + 1))))) (fun k => ?_) (Ev.bind e ?_)
    · simp only [laws_szTermS.l0]; rw [if_pos (by omega), if_pos (by omega), hy]
    · unfold szRes
      by_cases hb : (budL y : Int) ≤ left
      · rw [if_pos hb]
        refine ev_neg (by omega) ?_
        rw [w64 _ (by omega) (by omega)]
        refine ev_cast ?_ (ih (i + 1) (left - budL y) (by omega) (by omega) (by omega))
        unfold szRes
        by_cases hc : (budLE (l.drop (i + 1)) : Int) ≤ left - budL y
        · rw [if_pos hc, if_pos (by omega)]; omega
        · rw [if_neg hc, if_neg (by omega)]
      · rw [if_neg hb, if_neg (by omega)]
        exact ev_pos (by omega) (Ev.now _)
theorem szS_of (l : List S39) (hl : (l.length : Int) ≤ 9223372036854775807)
    (h : ∀ y ∈ l, ∀ left : Int, 0 ≤ left → left ≤ 1048576 → Ev (fun k => laws_szTerm.f k y.f0 y.f1 y.f2 y.f3 left) (szRes left (budL y))) (left : Int) (h0 : 0 ≤ left) (h1 : left ≤ 1048576) :
    Ev (fun k => laws_szTermS.f k l left) (szRes left (l.length + budLE l)) := by
  by_cases hc : left - (l.length : Int) < 0
  · refine Ev.step (f := fun _ => some (-1)) (fun k => ?_) (ev_cast ?_ (Ev.now _))
    · simp only [laws_szTermS.f]; rw [w64 _ (by omega) (by omega), if_pos hc]
    · unfold szRes; rw [if_neg (by omega)]
  · refine Ev.step (fun k => ?_) (ev_cast ?_ (sz_loop l hl h l.length 0 (left - l.length) (by omega) (by omega) (by omega)))
    · simp only [laws_szTermS.f]; rw [w64 _ (by omega) (by omega), if_neg hc]; rfl
    · rw [List.drop_zero]
      unfold szRes
      by_cases hb : (budLE l : Int) ≤ left - l.length
      · rw [if_pos hb, if_pos (by omega)]; omega
      · rw [if_neg hb, if_neg (by omega)]
theorem sz_all : ∀ x, wf39 x → ∀ left : Int, 0 ≤ left → left ≤ 1048576 → Ev (fun k => laws_szTerm.f k x.f0 x.f1 x.f2 x.f3 left) (szRes left (budL x)) := by
  refine indL ?_
  intro a b s l ih hw left h0 h1
  obtain ⟨_, _, hs, hl, hm⟩ := wfL_mk hw
  simp only []
  by_cases hc : left - (s.size : Int) < 0
  · refine Ev.step (f := fun _ => some (-1)) (fun k => ?_) (ev_cast ?_ (Ev.now _))
    · simp only [laws_szTerm.f]; rw [w64 _ (by omega) (by omega), if_pos hc]
    · rw [budL]; unfold szRes; rw [if_neg (by omega)]
  · have e := szS_of l hl (fun y hy => ih y hy (hm y hy)) (left - s.size) (by omega) (by omega)
    refine Ev.step (f := fun k => (laws_szTermS.f k l (left - (s.size : Int))).bind fun t104 => (if t104 < 0 then (some (-1)) else (some t104))) (fun k => ?_) (Ev.bind e ?_)
    · simp only [laws_szTerm.f]; rw [w64 _ (by omega) (by omega), if_neg hc]
    · rw [budL]
      unfold szRes
      by_cases hb : ((l.length + budLE l : Nat) : Int) ≤ left - s.size
      · have hb2 : ((s.size + (l.length + budLE l) : Nat) : Int) ≤ left := by omega
        rw [if_pos hb, if_pos hb2]
        exact ev_neg (by omega) (ev_cast (by omega) (Ev.now _))
      · have hb2 : ¬ ((s.size + (l.length + budLE l) : Nat) : Int) ≤ left := by omega
        rw [if_neg hb, if_neg hb2]
        exact ev_pos (by omega) (Ev.now _)
theorem szBd_ev (x : S41) (hw : wf41 x) (left : Int) (h0 : 0 ≤ left) (h1 : left ≤ 1048576) : Ev (fun k => laws_szBind.f k x.f0 x.f1.f0 x.f1.f1 x.f1.f2 x.f1.f3 left) (szRes left (budBd x)) := by
  obtain ⟨q0, q1⟩ := wfBd_mk hw
  unfold laws_szBind.f budBd
  rw [w64 _ (by omega) (by omega)]
  by_cases hc : left - (x.f0.size : Int) < 0
  · refine ev_pos hc (ev_cast ?_ (Ev.now _))
    unfold szRes; rw [if_neg (by omega)]
  · refine ev_neg hc (Ev.bind (sz_all x.f1 q1 (left - x.f0.size) (by omega) (by omega)) ?_)
    unfold szRes
    by_cases hb : ((budL x.f1 : Nat) : Int) ≤ left - x.f0.size
    · rw [if_pos hb]
      refine ev_neg (by omega) (ev_cast ?_ (Ev.now _))
      rw [if_pos (by omega)]; omega
    · rw [if_neg hb]
      refine ev_pos (by omega) (ev_cast ?_ (Ev.now _))
      rw [if_neg (by omega)]
theorem szBdS_ev (l : List S41) (hl : (l.length : Int) ≤ 9223372036854775807) (hw : ∀ y ∈ l, wf41 y) (left : Int) (h0 : 0 ≤ left) (h1 : left ≤ 1048576) : Ev (fun k => laws_szBindS.f k l left) (szRes left (budBdS l)) := by
  unfold laws_szBindS.f budBdS
  rw [w64 _ (by omega) (by omega)]
  by_cases hc : left - (l.length : Int) < 0
  · refine ev_pos hc (ev_cast ?_ (Ev.now _))
    unfold szRes; rw [if_neg (by omega)]
  · refine ev_neg hc (ev_cast ?_ (sz_loopG (fun k left i => laws_szBindS.l0 k l left i) budBd l ?_ ?_ l.length 0 (left - l.length) (by omega) (by omega) (by omega)))
    · rw [List.drop_zero]
      unfold szRes
      by_cases hb : (sumB budBd l : Int) ≤ left - l.length
      · rw [if_pos hb, if_pos (by omega)]; omega
      · rw [if_neg hb, if_neg (by omega)]
    · intro i hi left r q0 q1 hr hn
      have e := szBd_ev l[i] (hw _ (List.getElem_mem hi)) left q0 q1
      have hrd := rd_lb l i hi
      generalize l[i] = c at *
      refine Ev.step (f := fun k => (laws_szBind.f k c.f0 c.f1.f0 c.f1.f1 c.f1.f2 c.f1.f3 left).bind fun t => (if t < 0 then (some (-1)) else (laws_szBindS.l0 k l t (wrap64 ((i : Int) + 1))))) (fun k => ?_) (Ev.bind e ?_)
      · simp only [laws_szBindS.l0]; rw [if_pos (by omega), if_pos (by omega), hrd]
      · rw [w64 _ (by omega) (by omega)]
        unfold szRes
        by_cases hb : (budBd c : Int) ≤ left
        · rw [if_pos hb]; exact ev_neg (by omega) (hr hb)
        · rw [if_neg hb]; exact ev_pos (by omega) (ev_cast (hn hb).symm (Ev.now _))
    · intro left
      refine Ev.step (f := fun _ => some left) (fun k => ?_) (Ev.now _)
      simp only [laws_szBindS.l0]; rw [if_neg (by omega)]
theorem set_takeI (l : List S26) (i : Nat) (v : S26) (h : i < l.length) : (l.set i v).take (i + 1) = l.take i ++ [v] := by
  rw [List.take_succ_eq_append_getElem (by simpa using h)]
  simp [List.take_set]
  rw [List.set_eq_of_length_le (by simp; omega)]
theorem to_loop (l : List S39) (hl : (l.length : Int) ≤ 1048576)
    (h : ∀ y ∈ l, Ev (fun k => laws_toTerm.f k y.f0 y.f1 y.f2 y.f3) (y.f0, y.f1, y.f2, cvL y.f3)) (d : Nat) :
    ∀ (i : Nat) (x : List S26), i + d = l.length → x.length = l.length → x.take i = (cvL l).take i → Ev (fun k => laws_toTermS.l0 k l x i) (cvL l) := by
  induction d with
  | zero =>
    intro i x hi hx ht
    refine Ev.step (f := fun _ => some x) (fun k => ?_) (ev_cast ?_ (Ev.now _))
    · simp only [laws_toTermS.l0]; rw [if_neg (by omega)]
    · rwa [List.take_of_length_le (by omega), List.take_of_length_le (by rw [cvL_len]; omega)] at ht
  | succ d ih =>
    intro i x hi hx ht
    have hlt : i < l.length := by omega
    have e := h _ (rdL_mem l i hlt)
    have hn := ih (i + 1) (x.set i (cv (rd_T39 l i))) (by omega) (by simpa using hx) (by
      rw [set_takeI _ _ _ (by omega), ht, List.take_succ_eq_append_getElem (by rw [cvL_len]; omega)]
      congr 1
      simp only [cvL_map, List.getElem_map]
      unfold rd_T39
      simp [List.getElem?_eq_getElem hlt])
    generalize hy : rd_T39 l i = y at *
    refine Ev.step (f := fun k => (laws_toTerm.f k y.f0 y.f1 y.f2 y.f3).bind fun bt112 => (laws_toTermS.l0 k l (x.set i (⟨bt112.1, bt112.2.1, bt112.2.2.1, bt112.2.2.2⟩ : S26)) (wrap64 ((i : Int) + 1)))) (fun k => ?_) (Ev.bind e ?_)
    · simp only [laws_toTermS.l0]; rw [if_pos (by omega), if_pos (by omega), hy]
      congr 1
      funext bt
      rw [if_pos (by omega)]
      rfl
    · rw [w64 _ (by omega) (by omega)]
      have ec : (⟨y.f0, y.f1, y.f2, cvL y.f3⟩ : S26) = cv y := by cases y; rw [cv]
      simp only [ec]
      exact hn
theorem toS_of (l : List S39) (hl : (l.length : Int) ≤ 1048576)
    (h : ∀ y ∈ l, Ev (fun k => laws_toTerm.f k y.f0 y.f1 y.f2 y.f3) (y.f0, y.f1, y.f2, cvL y.f3)) : Ev (fun k => laws_toTermS.f k l) (cvL l) := by
  refine Ev.step (fun k => ?_) (to_loop l hl h l.length 0 (List.replicate l.length z26) (by omega) (by simp) (by simp))
  simp only [laws_toTermS.f]; rw [if_pos (by omega), if_pos (by omega)]
  simp
theorem budL_mem : ∀ (l : List S39) (x : S39), x ∈ l → budL x ≤ budLE l
  | [], x, h => by cases h
  | y :: r, x, h => by
    rw [budLE]
    rcases List.mem_cons.1 h with rfl | h
    · omega
    · have := budL_mem r x h; omega
theorem to_all : ∀ x, (budL x : Int) ≤ 1048576 → Ev (fun k => laws_toTerm.f k x.f0 x.f1 x.f2 x.f3) (x.f0, x.f1, x.f2, cvL x.f3) := by
  refine indL ?_
  intro a b s l ih hb
  rw [budL] at hb
  refine Ev.step (f := fun k => (laws_toTermS.f k l).bind fun t122 => (some (a, b, s, t122))) (fun k => ?_) (Ev.bind (toS_of l (by omega) (fun y hy => ih y hy (by have := budL_mem l y hy; omega))) (Ev.now _))
  simp only [laws_toTerm.f]
theorem toBd_ev (x : S41) (hb : (budBd x : Int) ≤ 1048576) : Ev (fun k => laws_toBind.f k x.f0 x.f1.f0 x.f1.f1 x.f1.f2 x.f1.f3) (x.f0, x.f1.f0, x.f1.f1, x.f1.f2, cvL x.f1.f3) := by
  unfold budBd at hb
  unfold laws_toBind.f
  exact Ev.bind (to_all x.f1 (by omega)) (Ev.now _)
theorem toBdS_ev (l : List S41) (hb : (budBdS l : Int) ≤ 1048576) : Ev (fun k => laws_toBindS.f k l) (l.map cvBd) := by
  unfold budBdS at hb
  unfold laws_toBindS.f
  refine ev_pos (by omega) (ev_pos (by omega) ?_)
  rw [Int.toNat_natCast]
  refine map_loop0 (fun k x i => laws_toBindS.l0 k l x i) cvBd l _ ?_ ?_
  · intro i hi x r hx er
    have e0 := toBd_ev l[i] (by have := sumB_mem budBd l _ (List.getElem_mem hi); omega)
    have hrd := rd_lb l i hi
    generalize l[i] = y at *
    refine Ev.step (f := fun k => (laws_toBind.f k y.f0 y.f1.f0 y.f1.f1 y.f1.f2 y.f1.f3).bind fun bt => (if (i : Int) < (x.length : Int) then (laws_toBindS.l0 k l (x.set (i : Int).toNat (⟨bt.1, (⟨bt.2.1, bt.2.2.1, bt.2.2.2.1, bt.2.2.2.2⟩ : S26)⟩ : S43)) (wrap64 ((i : Int) + 1))) else none)) (fun k => ?_) (Ev.bind e0 (ev_pos (by omega) ?_))
    · simp only [laws_toBindS.l0]; rw [if_pos (by omega), if_pos (by omega), hrd]
    · rw [w64 _ (by omega) (by omega), Int.toNat_natCast]
      have ec : (⟨y.f0, (⟨y.f1.f0, y.f1.f1, y.f1.f2, cvL y.f1.f3⟩ : S26)⟩ : S43) = cvBd y := by
        obtain ⟨a, ⟨c, d, e, f⟩⟩ := y
        unfold cvBd; simp only []; rw [cv]
      simp only [ec]
      exact er
  · intro x hx
    refine Ev.step (f := fun _ => some x) (fun k => ?_) (Ev.now _)
    simp only [laws_toBindS.l0]; rw [if_neg (by omega)]
theorem eq_loop (l : List S26) (hl : (l.length : Int) ≤ 4194304)
    (h : ∀ y ∈ l, Ev (fun k => laws_eqTerm.f k y.f0 y.f1 y.f2 y.f3 y.f0 y.f1 y.f2 y.f3) true) (d : Nat) : ∀ (i : Nat), i + d = l.length → Ev (fun k => laws_eqTermS.l0 k l l i) true := by
  induction d with
  | zero =>
    intro i hi
    refine Ev.step (f := fun _ => some true) (fun k => ?_) (Ev.now _)
    simp only [laws_eqTermS.l0]; rw [if_neg (by omega)]
  | succ d ih =>
    intro i hi
    have hlt : i < l.length := by omega
    have e := h _ (rdI_mem l i hlt)
    have hn := ih (i + 1) (by omega)
    generalize hy : rd_T26 l i = y at *
    refine Ev.step (f := fun k => (laws_eqTerm.f k y.f0 y.f1 y.f2 y.f3 y.f0 y.f1 y.f2 y.f3).bind fun t131 => (if t131 = true then (laws_eqTermS.l0 k l l (wrap64 ((i : Int) + 1))) else (some false))) (fun k => ?_) (Ev.bind e (ev_pos rfl ?_))
    · simp only [laws_eqTermS.l0]; rw [if_pos (by omega), if_pos (by omega), if_pos (by omega), hy]
    · rw [w64 _ (by omega) (by omega)]; exact hn
theorem eqS_of (l : List S26) (hl : (l.length : Int) ≤ 4194304) (h : ∀ y ∈ l, Ev (fun k => laws_eqTerm.f k y.f0 y.f1 y.f2 y.f3 y.f0 y.f1 y.f2 y.f3) true) : Ev (fun k => laws_eqTermS.f k l l) true := by
  refine Ev.step (fun k => ?_) (eq_loop l hl h l.length 0 (by omega))
  simp only [laws_eqTermS.f]; rw [if_pos trivial]; rfl
theorem eq_all : ∀ x, (budI x : Int) ≤ 4194304 → Ev (fun k => laws_eqTerm.f k x.f0 x.f1 x.f2 x.f3 x.f0 x.f1 x.f2 x.f3) true := by
  refine indI ?_
  intro a b s l ih hb
  rw [budI] at hb
  have hl := budIL_len l
  refine Ev.step (f := fun k => (laws_eqTermS.f k l l).bind fun t134 => (if t134 = true then (some true) else (some false))) (fun k => ?_) (Ev.bind (eqS_of l (by omega) (fun y hy => ih y hy (by have := budI_mem l y hy; omega))) (ev_pos rfl (Ev.now _)))
  simp only [laws_eqTerm.f]
  simp
theorem eqTerm_ev (a b : Int) (s : ByteArray) (l : List S26) (hb : (budI ⟨a, b, s, l⟩ : Int) ≤ 4194304) : Ev (fun k => laws_eqTerm.f k a b s l a b s l) true := eq_all _ hb
theorem eqBd_ev (x : S43) (hb : (budI x.f1 : Int) ≤ 4194304) : Ev (fun k => laws_eqBind.f k x.f0 x.f1.f0 x.f1.f1 x.f1.f2 x.f1.f3 x.f0 x.f1.f0 x.f1.f1 x.f1.f2 x.f1.f3) true := by
  unfold laws_eqBind.f
  exact ev_pos rfl (Ev.bind (eq_all x.f1 hb) (ev_pos rfl (Ev.now _)))
theorem eqBdS_ev (l : List S43) (hl : (l.length : Int) ≤ 4194304) (hb : ∀ y ∈ l, (budI y.f1 : Int) ≤ 4194304) : Ev (fun k => laws_eqBindS.f k l l) true := by
  unfold laws_eqBindS.f
  refine ev_pos rfl (ev_cast ?_ (all_loop (fun k i => laws_eqBindS.l0 k l l i) (fun _ => true) l.length ?_ ?_ l.length 0 (by omega)))
  · unfold allFrom; simp
  · intro i hi r hr hn
    have e0 := eqBd_ev l[i] (hb _ (List.getElem_mem hi))
    have hrd := rd_ib l i hi
    generalize l[i] = y at *
    refine Ev.step (f := fun k => (laws_eqBind.f k y.f0 y.f1.f0 y.f1.f1 y.f1.f2 y.f1.f3 y.f0 y.f1.f0 y.f1.f1 y.f1.f2 y.f1.f3).bind fun t => (if t = true then (laws_eqBindS.l0 k l l (wrap64 ((i : Int) + 1))) else (some false))) (fun k => ?_) (Ev.bind e0 (ev_pos rfl ?_))
    · simp only [laws_eqBindS.l0]; rw [if_pos (by omega), if_pos (by omega), if_pos (by omega), hrd]
    · rw [w64 _ (by omega) (by omega)]; exact hr rfl
  · refine Ev.step (f := fun _ => some true) (fun k => ?_) (Ev.now _)
    simp only [laws_eqBindS.l0]; rw [if_neg (by omega)]
theorem take_rdI (l : List S26) (i : Nat) (h : i < l.length) : l.take i ++ [rd_T26 l i] = l.take (i + 1) := by
  rw [List.take_add_one]
  unfold rd_T26
  simp [List.getElem?_eq_getElem h]
theorem spec_l2Copy_l (a b : Int) (s : ByteArray) (l : List S26) (hl : (budIL l : Int) ≤ 4194304)
    (h : ∀ y ∈ l, Ev (fun k => spec_l2Copy.f k y.f0 y.f1 y.f2 y.f3) (y.f0, y.f1, y.f2, y.f3)) (d : Nat) : ∀ (i : Nat), i + d = l.length → Ev (fun k => spec_l2Copy.l0 k i a b s l a b s (l.take i)) (a, b, s, l) := by
  have hlen := budIL_len l
  induction d with
  | zero =>
    intro i hi
    refine Ev.step (f := fun _ => some (a, b, s, l)) (fun k => ?_) (Ev.now _)
    simp only [spec_l2Copy.l0]; rw [if_neg (by omega), List.take_of_length_le (by omega)]
  | succ d ih =>
    intro i hi
    have hlt : i < l.length := by omega
    have e := h _ (rdI_mem l i hlt)
    have ht := take_rdI l i hlt
    generalize hy : rd_T26 l i = y at *
    refine Ev.step (f := fun k => (spec_l2Copy.f k y.f0 y.f1 y.f2 y.f3).bind fun bt => (if (l.take i).length < 2513169434916 then (spec_l2Copy.l0 k (wrap64 ((i : Int) + 1)) a b s l a b s (l.take i ++ [(⟨bt.1, bt.2.1, bt.2.2.1, bt.2.2.2⟩ : S26)])) else none)) (fun k => ?_) (Ev.bind e (ev_pos (by rw [List.length_take]; omega) ?_))
    · simp only [spec_l2Copy.l0]; rw [if_pos (by omega), if_pos (by omega), hy]
    · rw [w64 _ (by omega) (by omega)]
      refine ev_cast rfl ?_
      have := ih (i + 1) (by omega)
      rw [← ht] at this
      simp only [etaI]
      exact this
theorem spec_l2Copy_all : ∀ x, (budI x : Int) ≤ 4194304 → Ev (fun k => spec_l2Copy.f k x.f0 x.f1 x.f2 x.f3) (x.f0, x.f1, x.f2, x.f3) := by
  refine indI ?_
  intro a b s l ih hb
  rw [budI] at hb
  refine Ev.step (fun k => ?_) (spec_l2Copy_l a b s l (by omega) (fun y hy => ih y hy (by have := budI_mem l y hy; omega)) l.length 0 (by omega))
  simp only [spec_l2Copy.f]; rfl
mutual
def countM : S26 → Nat
  | ⟨_, _, _, l⟩ => 1 + countML l
def countML : List S26 → Nat
  | [] => 0
  | x :: r => countM x + countML r
end
mutual
theorem count_bud : ∀ x, countM x ≤ 1 + budI x
  | ⟨a, b, s, l⟩ => by rw [countM, budI]; have := countL_bud l; omega
theorem countL_bud : ∀ l, countML l ≤ budIL l
  | [] => by rw [countML]; omega
  | x :: r => by rw [countML, budIL]; have := count_bud x; have := countL_bud r; omega
end
theorem rdIx2 (l : List S26) (i : Nat) (h : i < l.length) : rd_T26 l (i : Int) = l[i] := getDG _ l i h
theorem copyT_loop (l : List S26) (hl : (l.length : Int) ≤ 4194304) (h : ∀ y ∈ l, Ev (fun k => impl_copyTerm.f k y.f0 y.f1 y.f2 y.f3) (y.f0, y.f1, y.f2, y.f3)) (d : Nat) :
    ∀ (i : Nat) (acc : List S26), i + d = l.length → acc.length ≤ i → Ev (fun k => impl_copyTerms.l0 k acc l (l.length : Int) i) (acc ++ l.drop i) := by
  induction d with
  | zero =>
    intro i acc hi ha
    refine Ev.step (f := fun _ => some acc) (fun k => ?_) (ev_cast ?_ (Ev.now _))
    · simp only [impl_copyTerms.l0]; rw [if_neg (by omega)]
    · rw [List.drop_eq_nil_of_le (by omega), List.append_nil]
  | succ d ih =>
    intro i acc hi ha
    have hlt : i < l.length := by omega
    refine Ev.step (f := fun k => (impl_copyTerm.f k l[i].f0 l[i].f1 l[i].f2 l[i].f3).bind fun bt => (if acc.length < 2513169434916 then (impl_copyTerms.l0 k (acc ++ [(⟨bt.1, bt.2.1, bt.2.2.1, bt.2.2.2⟩ : S26)]) l (l.length : Int) (wrap64 ((i : Int) + 1))) else none)) (fun k => ?_) (Ev.bind (h l[i] (List.getElem_mem hlt)) (ev_pos (by omega) ?_))
    · simp only [impl_copyTerms.l0]
      rw [if_pos (by omega), if_pos (by omega), if_pos (by omega), rdIx2 l i hlt]
    · rw [w64 _ (by omega) (by omega)]
      have e := ih (i + 1) (acc ++ [l[i]]) (by omega) (by rw [List.length_append]; simp; omega)
      rw [List.append_assoc, List.singleton_append, ← List.drop_eq_getElem_cons hlt] at e
      simp only [etaI]
      exact e
theorem copyTs_of (l : List S26) (hl : (l.length : Int) ≤ 4194304) (h : ∀ y ∈ l, Ev (fun k => impl_copyTerm.f k y.f0 y.f1 y.f2 y.f3) (y.f0, y.f1, y.f2, y.f3)) : Ev (fun k => impl_copyTerms.f k l) l := by
  have e := copyT_loop l hl h l.length 0 [] (by omega) (by simp)
  rw [List.drop_zero, List.nil_append] at e
  exact Ev.step (fun k => by simp only [impl_copyTerms.f]; rfl) e
theorem copyT_all : ∀ x : S26, (budI x : Int) ≤ 4194304 → Ev (fun k => impl_copyTerm.f k x.f0 x.f1 x.f2 x.f3) (x.f0, x.f1, x.f2, x.f3) := by
  refine indI (fun a b s l ih hb => ?_)
  rw [budI_mk] at hb
  have hll := budIL_len l
  refine Ev.step (fun k => by simp only [impl_copyTerm.f]; rfl) (Ev.bind (copyTs_of l (by omega) (fun y hy => ih y hy (by have := budI_mem l y hy; omega))) (Ev.now _))
def bindM : List S43 → ByteArray → S26 × Bool
  | [], _ => (⟨0, 0, ⟨#[]⟩, []⟩, false)
  | x :: r, a => if x.f0.toList = a.toList then (x.f1, true) else bindM r a
theorem bindM_bud (B : Nat) : ∀ (l : List S43) (a : ByteArray), (∀ y ∈ l, budI y.f1 ≤ B) → budI (bindM l a).1 ≤ B
  | [], a, _ => by rw [bindM]; simp only []; rw [budI, budIL]; exact Nat.zero_le _
  | x :: r, a, h => by
    rw [bindM]
    split
    · exact h x (List.mem_cons_self ..)
    · exact bindM_bud B r a (fun y hy => h y (List.mem_cons_of_mem _ hy))
theorem spec_BindOf_l (l : List S43) (hl : (l.length : Int) ≤ 1048576) (hb : ∀ y ∈ l, (budI y.f1 : Int) ≤ 4194304) (a : ByteArray) (d : Nat) : ∀ (i : Nat), i + d = l.length → Ev (fun k => spec_BindOf.l0 k l a i) ((bindM (l.drop i) a).1.f0, (bindM (l.drop i) a).1.f1, (bindM (l.drop i) a).1.f2, (bindM (l.drop i) a).1.f3, (bindM (l.drop i) a).2) := by
  induction d with
  | zero =>
    intro i hi
    rw [List.drop_eq_nil_of_le (by omega), bindM]
    refine Ev.step (f := fun _ => some (0, 0, (⟨#[]⟩ : ByteArray), ([] : List S26), false)) (fun k => ?_) (Ev.now _)
    simp only [spec_BindOf.l0]; rw [if_neg (by omega)]
  | succ d ih =>
    intro i hi
    have hlt : i < l.length := by omega
    rw [List.drop_eq_getElem_cons hlt, bindM]
    by_cases h : l[i].f0.toList = a.toList
    · rw [if_pos h]
      have e := spec_l2Copy_all l[i].f1 (hb _ (List.getElem_mem hlt))
      refine Ev.step (f := fun k => (spec_l2Copy.f k l[i].f1.f0 l[i].f1.f1 l[i].f1.f2 l[i].f1.f3).bind fun bt => (some (bt.1, bt.2.1, bt.2.2.1, bt.2.2.2, true))) (fun k => ?_) (Ev.bind e (Ev.now _))
      simp only [spec_BindOf.l0]; rw [if_pos (by omega), if_pos (by omega), rd_ib l i hlt, if_pos h]
    · rw [if_neg h]
      refine Ev.step (fun k => ?_) (ih (i + 1) (by omega))
      simp only [spec_BindOf.l0]; rw [if_pos (by omega), if_pos (by omega), rd_ib l i hlt, if_neg h, w64 _ (by omega) (by omega)]
      rfl
theorem spec_BindOf_ev (l : List S43) (hl : (l.length : Int) ≤ 1048576) (hb : ∀ y ∈ l, (budI y.f1 : Int) ≤ 4194304) (a : ByteArray) : Ev (fun k => spec_BindOf.f k l a) ((bindM l a).1.f0, (bindM l a).1.f1, (bindM l a).1.f2, (bindM l a).1.f3, (bindM l a).2) := by
  unfold spec_BindOf.f
  exact spec_BindOf_l l hl hb a l.length 0 (by omega)
theorem impl_BindOf_l (l : List S43) (hl : (l.length : Int) ≤ 1048576) (hb : ∀ y ∈ l, (budI y.f1 : Int) ≤ 4194304) (a : ByteArray) (d : Nat) : ∀ (i : Nat), i + d = l.length → Ev (fun k => impl_BindOf.l0 k a l (l.length : Int) i) ((bindM (l.drop i) a).1.f0, (bindM (l.drop i) a).1.f1, (bindM (l.drop i) a).1.f2, (bindM (l.drop i) a).1.f3, (bindM (l.drop i) a).2) := by
  induction d with
  | zero =>
    intro i hi
    rw [List.drop_eq_nil_of_le (by omega), bindM]
    refine Ev.step (f := fun _ => some (0, 0, (⟨#[]⟩ : ByteArray), ([] : List S26), false)) (fun k => ?_) (Ev.now _)
    simp only [impl_BindOf.l0]; rw [if_neg (by omega)]
  | succ d ih =>
    intro i hi
    have hlt : i < l.length := by omega
    rw [List.drop_eq_getElem_cons hlt, bindM]
    by_cases h : l[i].f0.toList = a.toList
    · rw [if_pos h]
      have e := copyT_all l[i].f1 (hb _ (List.getElem_mem hlt))
      refine Ev.step (f := fun k => (impl_copyTerm.f k l[i].f1.f0 l[i].f1.f1 l[i].f1.f2 l[i].f1.f3).bind fun bt => (some (bt.1, bt.2.1, bt.2.2.1, bt.2.2.2, true))) (fun k => ?_) (Ev.bind e (Ev.now _))
      simp only [impl_BindOf.l0]; rw [if_pos (by omega), if_pos (by omega), if_pos (by omega), rd_ib l i hlt, if_pos h]
    · rw [if_neg h]
      refine Ev.step (fun k => ?_) (ih (i + 1) (by omega))
      simp only [impl_BindOf.l0]; rw [if_pos (by omega), if_pos (by omega), if_pos (by omega), rd_ib l i hlt, if_neg h, w64 _ (by omega) (by omega)]
      rfl
theorem impl_BindOf_ev (l : List S43) (hl : (l.length : Int) ≤ 1048576) (hb : ∀ y ∈ l, (budI y.f1 : Int) ≤ 4194304) (a : ByteArray) : Ev (fun k => impl_BindOf.f k l a) ((bindM l a).1.f0, (bindM l a).1.f1, (bindM l a).1.f2, (bindM l a).1.f3, (bindM l a).2) := by
  unfold impl_BindOf.f
  exact impl_BindOf_l l hl hb a l.length 0 (by omega)
theorem str_one (x : Int) : (strOfNums [x]).size = 1 := by unfold strOfNums; rfl
theorem laws_markText_l0 (m : Nat) : ∀ (n : Nat) (x3 : ByteArray), n ≤ m → n ≤ 4000000000 → x3.size + n ≤ 5000000000 → ∃ r, Ev (fun k => laws_markText.l0 k (n : Int) x3) r := by
  have z : ∀ x3 : ByteArray, x3.size ≤ 5000000000 → ∃ r, Ev (fun k => laws_markText.l0 k ((0 : Nat) : Int) x3) r := fun x3 hs =>
    ⟨_, Ev.step (f := fun _ => (if 1 + x3.size ≤ 9223372036854775807 then (some ((⟨#[109]⟩ : ByteArray) ++ x3)) else none)) (fun k => by simp only [laws_markText.l0]; rw [if_neg (by omega)]) (ev_pos (by omega) (Ev.now _))⟩
  induction m with
  | zero =>
    intro n x3 hm h1 h2
    obtain rfl : n = 0 := by omega
    exact z x3 (by omega)
  | succ m ih =>
    intro n x3 hm h1 h2
    by_cases h0 : n = 0
    · subst h0; exact z x3 (by omega)
    · have ht : wrap64 (Int.tdiv (n : Int) 10) = ((n / 10 : Nat) : Int) := by
        rw [Int.tdiv_eq_ediv_of_nonneg (by omega), w64 _ (by omega) (by omega)]; omega
      obtain ⟨r, e⟩ := ih (n / 10) (strOfNums [(wrap64 (48 + (Int.tmod (n : Int) 10))) % 256] ++ x3) (by omega) (by omega) (by rw [ByteArray.size_append, str_one]; omega)
      refine ⟨r, Ev.step (f := fun k => (some (([(wrap64 (48 + (Int.tmod (n : Int) 10))) % 256] : List Int) : List Int)).bind fun y => (if (strOfNums y).size + x3.size ≤ 9223372036854775807 then (laws_markText.l0 k (wrap64 (Int.tdiv (n : Int) 10)) ((strOfNums y) ++ x3)) else (none))) (fun k => ?_) (Ev.bind (Ev.now _) (ev_pos ?_ ?_))⟩
      · simp only [laws_markText.l0]; rw [if_pos (by omega)]
      · rw [str_one]; omega
      · rw [ht]; exact e
theorem laws_markText_ev (n : Int) (h0 : 0 ≤ n) (h1 : n ≤ 4000000000) : ∃ r, Ev (fun k => laws_markText.f k n) r := by
  unfold laws_markText.f
  by_cases h : n ≤ 0
  · exact ⟨_, ev_pos h (Ev.now _)⟩
  · obtain ⟨m, rfl⟩ : ∃ m : Nat, n = (m : Int) := ⟨n.toNat, by omega⟩
    obtain ⟨r, e⟩ := laws_markText_l0 m m ⟨#[]⟩ (by omega) (by omega) (by show 0 + m ≤ _; omega)
    exact ⟨r, ev_neg h e⟩
theorem markS_loop (l : List S26) (hl : (budIL l : Int) ≤ 4194304) (h : ∀ y ∈ l, ∀ x1 : Int, 0 ≤ x1 → x1 + 3 * countML y.f3 ≤ 100000000 → Ev (fun k => laws_markTermS.f k y.f3 x1) (x1 + 3 * countML y.f3)) (d : Nat) :
    ∀ (i : Nat) (x1 : Int), i + d = l.length → 0 ≤ x1 → x1 + 3 * countML (l.drop i) ≤ 100000000 → Ev (fun k => laws_markTermS.l0 k l x1 i) (x1 + 3 * countML (l.drop i)) := by
  have hll := budIL_len l
  induction d with
  | zero =>
    intro i x1 hi h0 hb
    refine Ev.step (f := fun _ => some x1) (fun k => ?_) (ev_cast ?_ (Ev.now _))
    · simp only [laws_markTermS.l0]; rw [if_neg (by omega)]
    · rw [List.drop_eq_nil_of_le (by omega), countML]; omega
  | succ d ih =>
    intro i x1 hi h0 hb
    have hlt : i < l.length := by omega
    have hc : (countML (l.drop i) : Int) = 1 + countML l[i].f3 + countML (l.drop (i + 1)) := by
      rw [List.drop_eq_getElem_cons hlt, countML]
      have : countM l[i] = 1 + countML l[i].f3 := by
        conv => lhs; rw [← etaI l[i]]
        rw [countM]
      omega
    obtain ⟨r, e⟩ := laws_markText_ev (x1 + 1 + 1) (by omega) (by omega)
    refine Ev.step (f := fun k => (laws_markText.f k (x1 + 1 + 1)).bind fun _ => ((laws_markTermS.f k l[i].f3 (x1 + 1 + 1 + 1)).bind fun t3 => (laws_markTermS.l0 k l t3 (wrap64 ((i : Int) + 1))))) (fun k => ?_) (Ev.bind e (Ev.bind (h l[i] (List.getElem_mem hlt) (x1 + 1 + 1 + 1) (by omega) (by omega)) ?_))
    · simp only [laws_markTermS.l0]
      rw [if_pos (by omega), if_pos (by omega), rdIx2 l i hlt, w64 (x1 + 1) (by omega) (by omega), w64 (x1 + 1 + 1) (by omega) (by omega), w64 (x1 + 1 + 1 + 1) (by omega) (by omega)]
    · rw [w64 _ (by omega) (by omega)]
      exact ev_cast (by omega) (ih (i + 1) _ (by omega) (by omega) (by omega))
theorem markS_of (l : List S26) (hl : (budIL l : Int) ≤ 4194304) (h : ∀ y ∈ l, ∀ x1 : Int, 0 ≤ x1 → x1 + 3 * countML y.f3 ≤ 100000000 → Ev (fun k => laws_markTermS.f k y.f3 x1) (x1 + 3 * countML y.f3)) (x1 : Int) (h0 : 0 ≤ x1) (h1 : x1 + 3 * countML l ≤ 100000000) : Ev (fun k => laws_markTermS.f k l x1) (x1 + 3 * countML l) := by
  have e := markS_loop l hl h l.length 0 x1 (by omega) h0 h1
  rw [List.drop_zero] at e
  exact Ev.step (fun k => by simp only [laws_markTermS.f]; rfl) e
theorem markS_all : ∀ x : S26, (budI x : Int) ≤ 4194304 → ∀ x1 : Int, 0 ≤ x1 → x1 + 3 * countML x.f3 ≤ 100000000 → Ev (fun k => laws_markTermS.f k x.f3 x1) (x1 + 3 * countML x.f3) := by
  refine indI (fun a b s l ih hb x1 h0 h1 => ?_)
  rw [budI_mk] at hb
  exact markS_of l (by omega) (fun y hy x2 h2 h3 => ih y hy (by have := budI_mem l y hy; omega) x2 h2 h3) x1 h0 h1
noncomputable def mtx (n : Int) : ByteArray := if h : 0 ≤ n ∧ n ≤ 4000000000 then Classical.choose (laws_markText_ev n h.1 h.2) else ByteArray.empty
theorem mtx_ev (n : Int) (h0 : 0 ≤ n) (h1 : n ≤ 4000000000) : Ev (fun k => laws_markText.f k n) (mtx n) := by
  unfold mtx
  rw [dif_pos ⟨h0, h1⟩]
  exact Classical.choose_spec (laws_markText_ev n h0 h1)
mutual
noncomputable def mkT : S26 → Int → S26
  | ⟨_, _, _, l⟩, n => ⟨n, n + 1, mtx (n + 1 + 1), mkL l (n + 1 + 1 + 1)⟩
noncomputable def mkL : List S26 → Int → List S26
  | [], _ => []
  | x :: r, n => mkT x n :: mkL r (n + 3 * countM x)
end
theorem mkT_eq (x : S26) (n : Int) : mkT x n = ⟨n, n + 1, mtx (n + 1 + 1), mkL x.f3 (n + 1 + 1 + 1)⟩ := by obtain ⟨a, b, s, l⟩ := x; rw [mkT]
theorem countM_f3 (x : S26) : countM x = 1 + countML x.f3 := by obtain ⟨a, b, s, l⟩ := x; rw [countM]
theorem countML_cons (x : S26) (r : List S26) : (countML (x :: r) : Int) = 1 + countML x.f3 + countML r := by
  have := countM_f3 x
  rw [countML]; omega
theorem countML_len : ∀ l : List S26, l.length ≤ countML l
  | [] => by simp [countML]
  | x :: r => by
    have := countML_len r
    have := countM_f3 x
    rw [countML, List.length_cons]; omega
theorem rd_mid (p r : List S26) (x : S26) : rd_T26 (p ++ x :: r) (p.length : Int) = x := by
  have h : p.length < (p ++ x :: r).length := by simp
  rw [rdIx2 _ _ h]
  simp
theorem set_mid (p r : List S26) (x y : S26) : (p ++ x :: r).set p.length y = (p ++ [y]) ++ r := by
  rw [List.set_append_right _ _ (Nat.le_refl _)]
  simp
theorem mkv_loop (r : List S26) : ∀ (p : List S26) (x1 : Int), (∀ y ∈ r, ∀ n : Int, 0 ≤ n → n + 3 * countML y.f3 ≤ 100000000 → Ev (fun k => mkv.f k y.f3 n) (n + 3 * countML y.f3, mkL y.f3 n)) → p.length + r.length ≤ 100000000 → 0 ≤ x1 → x1 + 3 * countML r ≤ 100000000 →
    Ev (fun k => mkv.l0 k (p ++ r) x1 p.length) (x1 + 3 * countML r, p ++ mkL r x1) := by
  induction r with
  | nil =>
    intro p x1 _ _ h0 h1
    refine Ev.step (f := fun _ => some (x1, p ++ [])) (fun k => ?_) (ev_cast ?_ (Ev.now _))
    · simp only [mkv.l0]; rw [if_neg (by simp)]
    · rw [countML, mkL]; simp
  | cons x r ih =>
    intro p x1 h hl h0 h1
    have hc := countML_cons x r
    have hl2 : p.length + (r.length + 1) ≤ 100000000 := by simpa using hl
    refine Ev.step (f := fun k => (laws_markText.f k (x1 + 1 + 1)).bind fun t2 => ((mkv.f k x.f3 (x1 + 1 + 1 + 1)).bind fun t3 => (mkv.l0 k ((p ++ x :: r).set (p.length : Int).toNat ⟨x1, wrap64 (x1 + 1), t2, t3.2⟩) t3.1 (wrap64 ((p.length : Int) + 1))))) (fun k => ?_)
      (Ev.bind (mtx_ev _ (by omega) (by omega)) (Ev.bind (h x (List.mem_cons_self ..) (x1 + 1 + 1 + 1) (by omega) (by omega)) ?_))
    · simp only [mkv.l0]
      rw [if_pos (by rw [List.length_append, List.length_cons]; omega), if_pos (by omega), rd_mid, w64 (x1 + 1) (by omega) (by omega), w64 (x1 + 1 + 1) (by omega) (by omega), w64 (x1 + 1 + 1 + 1) (by omega) (by omega)]
    · rw [w64 (x1 + 1) (by omega) (by omega), w64 ((p.length : Int) + 1) (by omega) (by omega), Int.toNat_natCast, set_mid]
      have e := ih (p ++ [(⟨x1, x1 + 1, mtx (x1 + 1 + 1), mkL x.f3 (x1 + 1 + 1 + 1)⟩ : S26)]) (x1 + 1 + 1 + 1 + 3 * countML x.f3) (fun y hy => h y (List.mem_cons_of_mem _ hy)) (by rw [List.length_append]; simp; omega) (by omega) (by omega)
      rw [List.length_append] at e
      refine ev_cast ?_ e
      have e1 : x1 + 1 + 1 + 1 + 3 * (countML x.f3 : Int) = x1 + 3 * countM x := by have := countM_f3 x; omega
      rw [mkL, mkT_eq, e1, List.append_assoc]
      have e2 : x1 + 3 * (countM x : Int) + 3 * (countML r : Int) = x1 + 3 * countML (x :: r) := by have := countM_f3 x; omega
      rw [e2]; rfl
theorem mkv_all : ∀ x : S26, ∀ n : Int, 0 ≤ n → n + 3 * countML x.f3 ≤ 100000000 → Ev (fun k => mkv.f k x.f3 n) (n + 3 * countML x.f3, mkL x.f3 n) := by
  refine indI (fun a b s l ih n h0 h1 => ?_)
  have hl := countML_len l
  have h1' : n + 3 * (countML l : Int) ≤ 100000000 := h1
  have e := mkv_loop l [] n (fun y hy => ih y hy) (by simp; omega) h0 h1
  exact Ev.step (fun k => by simp only [mkv.f]; rfl) e
theorem held_loop (r : List S26) : ∀ (p : List S26) (x1 : Int), (∀ y ∈ r, ∀ n : Int, 0 ≤ n → n + 3 * countML y.f3 ≤ 100000000 → Ev (fun k => laws_heldTermS.f k (mkL y.f3 n) n) (n + 3 * countML y.f3)) → p.length + r.length ≤ 100000000 → 0 ≤ x1 → x1 + 3 * countML r ≤ 100000000 →
    Ev (fun k => laws_heldTermS.l0 k (p ++ mkL r x1) x1 p.length) (x1 + 3 * countML r) := by
  induction r with
  | nil =>
    intro p x1 _ _ h0 h1
    refine Ev.step (f := fun _ => some x1) (fun k => ?_) (ev_cast ?_ (Ev.now _))
    · rw [mkL]; simp only [laws_heldTermS.l0]; rw [if_neg (by simp)]
    · rw [countML]; simp
  | cons x r ih =>
    intro p x1 h hl h0 h1
    have hc := countML_cons x r
    have hl2 : p.length + (r.length + 1) ≤ 100000000 := by simpa using hl
    rw [mkL, mkT_eq]
    have e1 : x1 + 3 * (countM x : Int) = x1 + 1 + 1 + 1 + 3 * countML x.f3 := by have := countM_f3 x; omega
    rw [e1]
    refine Ev.step (f := fun k => (laws_markText.f k (x1 + 1 + 1)).bind fun t => (if (mtx (x1 + 1 + 1)).toList = t.toList then ((laws_heldTermS.f k (mkL x.f3 (x1 + 1 + 1 + 1)) (x1 + 1 + 1 + 1)).bind fun t217 => (if t217 < 0 then (some (-1)) else (laws_heldTermS.l0 k (p ++ (⟨x1, x1 + 1, mtx (x1 + 1 + 1), mkL x.f3 (x1 + 1 + 1 + 1)⟩ : S26) :: mkL r (x1 + 1 + 1 + 1 + 3 * countML x.f3)) t217 (wrap64 ((p.length : Int) + 1))))) else (some (-1)))) (fun k => ?_)
      (Ev.bind (mtx_ev _ (by omega) (by omega)) (ev_pos rfl (Ev.bind (h x (List.mem_cons_self ..) (x1 + 1 + 1 + 1) (by omega) (by omega)) (ev_neg (by omega) ?_))))
    · simp only [laws_heldTermS.l0]
      rw [if_pos (by rw [List.length_append, List.length_cons]; omega), if_pos (by omega), rd_mid, if_pos rfl, w64 (x1 + 1) (by omega) (by omega), if_pos rfl, w64 (x1 + 1 + 1) (by omega) (by omega), w64 (x1 + 1 + 1 + 1) (by omega) (by omega)]
    · rw [w64 ((p.length : Int) + 1) (by omega) (by omega)]
      have e := ih (p ++ [(⟨x1, x1 + 1, mtx (x1 + 1 + 1), mkL x.f3 (x1 + 1 + 1 + 1)⟩ : S26)]) (x1 + 1 + 1 + 1 + 3 * countML x.f3) (fun y hy => h y (List.mem_cons_of_mem _ hy)) (by rw [List.length_append]; simp; omega) (by omega) (by omega)
      rw [List.length_append, List.append_assoc] at e
      exact ev_cast (by omega) e
theorem held_all : ∀ x : S26, ∀ n : Int, 0 ≤ n → n + 3 * countML x.f3 ≤ 100000000 → Ev (fun k => laws_heldTermS.f k (mkL x.f3 n) n) (n + 3 * countML x.f3) := by
  refine indI (fun a b s l ih n h0 h1 => ?_)
  have hl := countML_len l
  have h1' : n + 3 * (countML l : Int) ≤ 100000000 := h1
  have e := held_loop l [] n (fun y hy => ih y hy) (by simp; omega) h0 h1
  exact Ev.step (fun k => by simp only [laws_heldTermS.f]; rfl) e
theorem heldMk_ev (a b : Int) (s : ByteArray) (l : List S26) (h : (countML l : Int) ≤ 10000000) (a2 b2 : Int) (s2 : ByteArray) : Ev (fun k => laws_heldTerm.f k a2 b2 s2 (mkL l 1) 1) (1 + 3 * countML l) := by
  unfold laws_heldTerm.f
  exact Ev.bind (held_all ⟨a, b, s, l⟩ 1 (by omega) (by show 1 + 3 * (countML l : Int) ≤ _; omega)) (ev_neg (by show ¬ (1 + 3 * (countML l : Int) < 0); omega) (Ev.now _))
theorem mkvMk_ev (a b : Int) (s : ByteArray) (l : List S26) (h : (countML l : Int) ≤ 10000000) : Ev (fun k => mkv.f k l 1) (1 + 3 * countML l, mkL l 1) := mkv_all ⟨a, b, s, l⟩ 1 (by omega) (by show 1 + 3 * (countML l : Int) ≤ _; omega)
def mcB (x : S43) : Nat := 4 + 3 * countML x.f1.f3
theorem markBdS_l (l : List S43) (hb : ∀ y ∈ l, (budI y.f1 : Int) ≤ 4194304) (hl : (l.length : Int) ≤ 4194304) (d : Nat) : ∀ (i : Nat) (x1 : Int), i + d = l.length → 0 ≤ x1 → x1 + sumB mcB (l.drop i) ≤ 100000000 → Ev (fun k => laws_markBindS.l0 k l x1 i) (x1 + sumB mcB (l.drop i)) := by
  induction d with
  | zero =>
    intro i x1 hi h0 h1
    refine Ev.step (f := fun _ => some x1) (fun k => ?_) (ev_cast ?_ (Ev.now _))
    · simp only [laws_markBindS.l0]; rw [if_neg (by omega)]
    · rw [List.drop_eq_nil_of_le (by omega), sumB]; omega
  | succ d ih =>
    intro i x1 hi h0 h1
    have hlt : i < l.length := by omega
    have hc := sumB_drop mcB l i hlt
    have hm : mcB l[i] = 4 + 3 * countML l[i].f1.f3 := rfl
    rw [hc, hm] at h1 ⊢
    have e1 := mtx_ev x1 (by omega) (by omega)
    have e2 := mtx_ev (x1 + 1 + 1 + 1) (by omega) (by omega)
    have e3 := markS_all l[i].f1 (hb _ (List.getElem_mem hlt)) (x1 + 1 + 1 + 1 + 1) (by omega) (by omega)
    refine Ev.step (f := fun k => (laws_markText.f k x1).bind fun _ => ((laws_markText.f k (x1 + 1 + 1 + 1)).bind fun _ => ((laws_markTermS.f k l[i].f1.f3 (x1 + 1 + 1 + 1 + 1)).bind fun t4 => (laws_markBindS.l0 k l t4 (wrap64 ((i : Int) + 1)))))) (fun k => ?_) (Ev.bind e1 (Ev.bind e2 (Ev.bind e3 ?_)))
    · simp only [laws_markBindS.l0]
      rw [if_pos (by omega), if_pos (by omega), rd_ib l i hlt, w64 (x1 + 1) (by omega) (by omega), w64 (x1 + 1 + 1) (by omega) (by omega), w64 (x1 + 1 + 1 + 1) (by omega) (by omega), w64 (x1 + 1 + 1 + 1 + 1) (by omega) (by omega)]
    · rw [w64 _ (by omega) (by omega)]
      exact ev_cast (by omega) (ih (i + 1) _ (by omega) (by omega) (by omega))
theorem markBdS_ev (l : List S43) (hb : ∀ y ∈ l, (budI y.f1 : Int) ≤ 4194304) (hl : (l.length : Int) ≤ 4194304) (h1 : (sumB mcB l : Int) ≤ 90000000) : Ev (fun k => laws_markBindS.f k l 1) (1 + sumB mcB l) := by
  have e := markBdS_l l hb hl l.length 0 1 (by omega) (by omega) (by rw [List.drop_zero]; omega)
  rw [List.drop_zero] at e
  exact Ev.step (fun k => by simp only [laws_markBindS.f]; rfl) e
theorem mcB_sum : ∀ l : List S41, sumB mcB (l.map cvBd) ≤ 4 * l.length + 3 * sumB budBd l
  | [] => by simp [sumB]
  | x :: r => by
    have := mcB_sum r
    have h1 := countL_bud (cv x.f1).f3
    have h2 : budIL (cv x.f1).f3 ≤ budL x.f1 := by
      have h3 := bud_cv x.f1
      rw [← etaI (cv x.f1), budI_mk] at h3
      omega
    have h4 : mcB (cvBd x) = 4 + 3 * countML (cv x.f1).f3 := rfl
    have h5 : budBd x = x.f0.size + budL x.f1 := rfl
    rw [List.map_cons, sumB, sumB, List.length_cons, h4, h5]
    omega
theorem FnExactBindOf : laws_FnExactBindOf.Pure := by
  intro l a hl hw ha
  refine Ev.rounds (g := fun k => laws_FnExactBindOf.f k l a) ?_
  unfold maxLen at hl
  unfold laws_FnExactBindOf.f
  by_cases hs : (a.size : Int) > 1048576
  · exact ev_pos hs (Ev.now _)
  refine ev_neg hs ?_
  refine Ev.step (fun k => by simp only [laws_FnExactBindOf.j0]; rfl) ?_
  refine Ev.bind (szBdS_ev l (by omega) hw 1048576 (by omega) (by omega)) ?_
  unfold szRes
  by_cases hb : (budBdS l : Int) ≤ 1048576
  · rw [if_pos hb]
    refine ev_neg (by omega) ?_
    have hb' := hb
    unfold budBdS at hb'
    have et := toBdS_ev l hb
    have hm : ((l.map cvBd).length : Int) ≤ 1048576 := by rw [List.length_map]; omega
    have hbud : ∀ y ∈ l.map cvBd, budI y.f1 ≤ 1048576 := by
      intro y hy
      obtain ⟨x, hx, rfl⟩ := List.mem_map.1 hy
      have h1 := sumB_mem budBd l x hx
      have h2 : budI (cvBd x).f1 = budL x.f1 := bud_cv x.f1
      have h3 : budBd x = x.f0.size + budL x.f1 := rfl
      omega
    have hbud' : ∀ y ∈ l.map cvBd, (budI y.f1 : Int) ≤ 4194304 := fun y hy => by have := hbud y hy; omega
    have hmc := mcB_sum l
    have em := markBdS_ev (l.map cvBd) hbud' (by omega) (by omega)
    have eb := eqBdS_ev (l.map cvBd) (by omega) hbud'
    have es := spec_BindOf_ev (l.map cvBd) hm hbud' a
    have ei := impl_BindOf_ev (l.map cvBd) hm hbud' a
    have hB := bindM_bud 1048576 (l.map cvBd) a hbud
    generalize l.map cvBd = L at *
    generalize bindM L a = R at *
    obtain ⟨⟨t0, t1, t2, t3⟩, q⟩ := R
    simp only [] at es ei hB
    have eq := eqTerm_ev t0 t1 t2 t3 (by omega)
    have hcl := countL_bud t3
    rw [budI_mk] at hB
    have hcl2 : (countML t3 : Int) ≤ 10000000 := by omega
    have ek := mkvMk_ev t0 t1 t2 t3 hcl2
    have eh := heldMk_ev t0 t1 t2 t3 hcl2 t0 t1 t2
    have eq' : Ev (fun k => laws_deepEqTerm.f k t0 t1 t2 t3 t0 t1 t2 t3) true := eq
    have ei' : Ev (fun k => impl_deepBindOf.f k L a) (t0, t1, t2, t3, q) := ei
    have ek' : Ev (fun k => laws_deepMarkTerm.f k t0 t1 t2 t3 1) (1 + 3 * (countML t3 : Int), mkL t3 1) := ek
    have eh' : Ev (fun k => laws_deepHeldTerm.f k t0 t1 t2 (mkL t3 1) 1) (1 + 3 * (countML t3 : Int)) := eh
    have hq : (q != q) = false := by cases q <;> rfl
    refine Ev.step (fun k => by simp only [laws_FnExactBindOf.j1]; rfl) ?_
    refine Ev.bind et (Ev.bind es (Ev.bind et (Ev.bind ei' (Ev.bind eq' (ev_pos rfl ?_)))))
    refine Ev.step (f := fun k => laws_FnExactBindOf.j3 k l a q L q t0 t1 t2 t3 t0 t1 t2 t3) (fun k => by simp only [laws_FnExactBindOf.j2, hq]; rw [if_neg (by decide)]) ?_
    refine Ev.step (fun k => by simp only [laws_FnExactBindOf.j3]; rfl) ?_
    refine Ev.bind et (Ev.bind eb (ev_pos rfl ?_))
    refine Ev.step (fun k => by simp only [laws_FnExactBindOf.j4]; rfl) ?_
    refine Ev.bind em (ev_neg (by omega) (Ev.bind eq' (ev_pos rfl ?_)))
    refine Ev.step (f := fun k => laws_FnExactBindOf.j6 k l a q t0 t1 t2 t3 t0 t1 t2 t3) (fun k => by simp only [laws_FnExactBindOf.j5, hq]; rw [if_neg (by decide)]) ?_
    refine Ev.step (fun k => by simp only [laws_FnExactBindOf.j6]; rfl) ?_
    refine Ev.bind ek' (Ev.bind eh' (ev_neg (by omega) ?_))
    refine Ev.step (f := fun k => laws_FnExactBindOf.j8 k l a q (1 + 3 * (countML t3 : Int)) t0 t1 t2 t3 t0 t1 t2 (mkL t3 1)) (fun k => by simp only [laws_FnExactBindOf.j7]; rw [if_pos trivial]) ?_
    refine Ev.step (fun k => by simp only [laws_FnExactBindOf.j8]; rfl) ?_
    refine Ev.bind et (Ev.bind ei (Ev.bind eq (ev_pos rfl ?_)))
    refine Ev.step (f := fun k => laws_FnExactBindOf.j10 k (1 + 3 * (countML t3 : Int)) t0 t1 t2 (mkL t3 1)) (fun k => by simp only [laws_FnExactBindOf.j9, hq]; rw [if_neg (by decide)]) ?_
    refine Ev.step (fun k => by simp only [laws_FnExactBindOf.j10]; rfl) ?_
    exact Ev.bind eh' (ev_neg (by omega) (ev_pos rfl (Ev.now _)))
  · rw [if_neg hb]
    exact ev_pos (by omega) (Ev.now _)

end Go.Proofs.Ytmcmhpiknhjiaaa.Pure
