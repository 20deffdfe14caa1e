/- What the law FnSorted of this seat says holds for every input that its row speaks of; no further condition. -/
import Derived.Test.YtkpompobnmdneaaQFnSortedx7
import Derived.Lib.Strings
set_option linter.unusedVariables false
set_option linter.unusedSimpArgs false
namespace Go.Proofs.Ytkpompobnmdneaa.Pure
open Go.RowKit Go.Proofs.Ytkpompobnmdneaa.QFnSorted Go.Proofs.YtkpompobnmdneaaW.PrintWords Go.Proofs.YtkpompobnmdneaaW.PrintLast Go.Proofs.YtkpompobnmdneaaW.PrintMore

theorem ev_pos {α : Type} {c : Prop} [Decidable c] {A B : Nat → Option α} {r : α} (h : c) (e : Ev A r) : Ev (fun k => if c then A k else B k) r := by
  obtain ⟨K, hK⟩ := e
  exact ⟨K, fun k hk => by simp only [if_pos h]; exact hK k hk⟩
theorem ev_neg {α : Type} {c : Prop} [Decidable c] {A B : Nat → Option α} {r : α} (h : ¬ c) (e : Ev B r) : Ev (fun k => if c then A k else B k) r := by
  obtain ⟨K, hK⟩ := e
  exact ⟨K, fun k hk => by simp only [if_neg h]; exact hK k hk⟩
theorem ev_of {α : Type} {o : Option α} {r : α} (h : o = some r) : Ev (fun _ => o) r := ⟨0, fun _ _ => h⟩
theorem ev_cast {α : Type} {g : Nat → Option α} {r r' : α} (h : r = r') (e : Ev g r) : Ev g r' := h ▸ e
theorem w64 (n : Int) (h0 : -9223372036854775808 ≤ n) (h1 : n ≤ 9223372036854775807) : wrap64 n = n := by unfold wrap64; omega
theorem laws_big_eq (l : List Int) : laws_big.f l = some (decide ((l.length : Int) > 1048576)) := rfl
theorem indI {P : S30 → Prop} (h : ∀ a b s l, (∀ y ∈ l, P y) → P ⟨a, b, s, l⟩) : ∀ x, P x := by
  intro x
  refine S30.rec (motive_1 := P) (motive_2 := fun l => ∀ y ∈ l, P y) ?_ ?_ ?_ x
  · intro a b s l hl
    exact h a b s l hl
  · intro y hy; cases hy
  · intro x r hx hr y hy
    rcases List.mem_cons.1 hy with rfl | hy
    · exact hx
    · exact hr y hy
mutual
def budI : S30 → Nat
  | ⟨_, _, s, l⟩ => s.size + budIL l
def budIL : List S30 → Nat
  | [] => 0
  | x :: r => 1 + budI x + budIL r
end
theorem budI_mk (a b : Int) (s : ByteArray) (l : List S30) : budI ⟨a, b, s, l⟩ = s.size + budIL l := by rw [budI]
theorem budIL_len : ∀ l : List S30, l.length ≤ budIL l
  | [] => by simp [budIL]
  | x :: r => by
    have := budIL_len r
    rw [budIL, List.length_cons]; omega
theorem rdI_mem (l : List S30) (i : Nat) (h : i < l.length) : rd_T30 l i ∈ l := by
  unfold rd_T30
  simp [List.getD_eq_getElem?_getD, List.getElem?_eq_getElem h]
theorem dropI (l : List S30) (i : Nat) (h : i < l.length) : l.drop i = rd_T30 l i :: l.drop (i + 1) := by
  rw [List.drop_eq_getElem_cons h]
  unfold rd_T30
  simp [List.getElem?_eq_getElem h]
theorem budI_mem : ∀ (l : List S30) (x : S30), x ∈ l → budI x + 1 ≤ budIL l
  | [], x, h => by cases h
  | y :: r, x, h => by
    rw [budIL]
    rcases List.mem_cons.1 h with rfl | h
    · omega
    · have := budI_mem r x h; omega
theorem etaI (x : S30) : (⟨x.f0, x.f1, x.f2, x.f3⟩ : S30) = x := by cases x; rfl
mutual
def sameM : S30 → S30 → Bool
  | ⟨a, b, s, l⟩, y => decide (a = y.f0) && (decide (b = y.f1) && (decide (s.toList = y.f2.toList) && sameML l y.f3))
def sameML : List S30 → List S30 → Bool
  | [], l => l.isEmpty
  | x :: r, l => match l with
    | [] => false
    | y :: r2 => sameM x y && sameML r r2
end
theorem sameML_len : ∀ l m, sameML l m = true → l.length = m.length
  | [], m, h => by rw [sameML] at h; cases m <;> simp_all
  | x :: r, [], h => by rw [sameML] at h; cases h
  | x :: r, y :: r2, h => by
    rw [sameML, Bool.and_eq_true] at h
    rw [List.length_cons, List.length_cons, sameML_len r r2 h.2]
def lowB (c : Int) : Bool := decide (97 ≤ c) && decide (c ≤ 122)
def digB (c : Int) : Bool := decide (48 ≤ c) && decide (c ≤ 57)
def atomFrom (s : ByteArray) (i : Nat) : Bool := (List.range' i (s.size - i)).all fun j => lowB (bt s j) || (!decide (j = 0) && (digB (bt s j) || decide (bt s j = 95)))
def atomOkM (s : ByteArray) : Bool := atomFrom s 0 && (decide (1 ≤ (s.size : Int)) && decide ((s.size : Int) ≤ 20))
def noText (s : ByteArray) : Bool := decide (s.toList = ([] : List UInt8))
def shapeM (a b : Int) (s : ByteArray) (l : List S30) : Bool :=
  if a = 1 then (decide (-1000000000000 ≤ b) && decide (b ≤ 1000000000000)) && (noText s && ((l.length : Int) == 0))
  else if a = 2 then atomOkM s && (decide (b = 0) && ((l.length : Int) == 0))
  else if a = 3 then (decide (0 ≤ b) && decide (b ≤ 1000000)) && (noText s && ((l.length : Int) == 0))
  else if a = 4 then decide (b = 0) && (noText s && decide ((l.length : Int) ≤ 20))
  else if a = 5 then decide (b = 0) && (noText s && decide ((l.length : Int) ≤ 60))
  else false
mutual
def goodM : S30 → Nat → Bool
  | ⟨a, b, s, l⟩, n => match n with
    | 0 => false
    | n + 1 => shapeM a b s l && goodML l n
def goodML : List S30 → Nat → Bool
  | [], _ => true
  | x :: r, n => goodM x n && goodML r n
end
theorem hk63 (n : Int) (h0 : 0 ≤ n) (h1 : n < 2 ^ 63) : IntKind.i64.wrap n = n := by
  rw [IntKind.wrap_i64]; omega
theorem getDG {α : Type} (z : α) (l : List α) (i : Nat) (h : i < l.length) : l.getD ((i : Int)).toNat z = l[i] := by
  simp [List.getD_eq_getElem?_getD, List.getElem?_eq_getElem h]
theorem rdIx2 (l : List S30) (i : Nat) (h : i < l.length) : rd_T30 l (i : Int) = l[i] := getDG _ l i h
theorem good_mk {a b : Int} {s : ByteArray} {l : List S30} {n : Nat} (h : goodM ⟨a, b, s, l⟩ n = true) : ∃ m, n = m + 1 ∧ shapeM a b s l = true ∧ goodML l m = true := by
  cases n with
  | zero => rw [goodM] at h; cases h
  | succ m =>
    rw [goodM, Bool.and_eq_true] at h
    exact ⟨m, rfl, h.1, h.2⟩
theorem goodL_mem : ∀ (l : List S30) (n : Nat), goodML l n = true → ∀ y ∈ l, goodM y n = true
  | [], _, _, y, hy => by cases hy
  | x :: r, n, h, y, hy => by
    rw [goodML, Bool.and_eq_true] at h
    rcases List.mem_cons.1 hy with rfl | hy
    · exact h.1
    · exact goodL_mem r n h.2 y hy
def cI (x y : Int) : Int := if x < y then -1 else if x > y then 1 else 0
def cB (s t : List UInt8) : Int := if Op.bytesLess s t = true then -1 else if Op.bytesLess t s = true then 1 else 0
mutual
def cmpM : S30 → S30 → Int
  | ⟨a, b, s, l⟩, y => if a = y.f0 then (if a = 1 ∨ a = 3 then cI b y.f1 else if a = 2 then cB s.toList y.f2.toList else if a = 4 then (if l.length = y.f3.length then cmpL l y.f3 else cI l.length y.f3.length) else if a = 5 then cmpL l y.f3 else 0) else cI a y.f0
def cmpL : List S30 → List S30 → Int
  | [], l => if l.isEmpty then 0 else -1
  | x :: r, l => match l with
    | [] => 1
    | y :: r2 => if cmpM x y = 0 then cmpL r r2 else cmpM x y
end
theorem cI_anti (x y : Int) : cI y x = - cI x y := by unfold cI; split <;> (try split) <;> (try split) <;> (try split) <;> omega
theorem u8_lt (a b : UInt8) : a < b ↔ a.toNat < b.toNat := UInt8.lt_iff_toNat_lt
theorem bl_irr : ∀ s, Op.bytesLess s s = false
  | [] => rfl
  | a :: x => by
    rw [Op.bytesLess, bl_irr x]
    have : ¬ a < a := by rw [u8_lt]; omega
    simp [this]
theorem bl_cons (a b : UInt8) (x y : List UInt8) : Op.bytesLess (a :: x) (b :: y) = true ↔ a.toNat < b.toNat ∨ (a.toNat = b.toNat ∧ Op.bytesLess x y = true) := by
  rw [Op.bytesLess, Bool.or_eq_true, Bool.and_eq_true, decide_eq_true_eq, u8_lt, beq_iff_eq, ← UInt8.toNat_inj]
theorem bl_trans : ∀ s t u, Op.bytesLess s t = true → Op.bytesLess t u = true → Op.bytesLess s u = true
  | _, _, [], _, h => by simp [Op.bytesLess] at h
  | [], _, _ :: _, _, _ => rfl
  | _ :: _, [], _, h, _ => by simp [Op.bytesLess] at h
  | a :: x, b :: y, c :: z, h1, h2 => by
    rw [bl_cons] at h1 h2 ⊢
    rcases h1 with h1 | ⟨h1, h1'⟩
    · rcases h2 with h2 | ⟨h2, h2'⟩
      · exact .inl (by omega)
      · exact .inl (by omega)
    · rcases h2 with h2 | ⟨h2, h2'⟩
      · exact .inl (by omega)
      · exact .inr ⟨by omega, bl_trans x y z h1' h2'⟩
theorem cB_anti (s t : List UInt8) : cB t s = - cB s t := by
  unfold cB
  by_cases h1 : Op.bytesLess s t = true
  · by_cases h2 : Op.bytesLess t s = true
    · have := bl_trans s t s h1 h2
      rw [bl_irr] at this
      cases this
    · rw [if_neg h2, if_pos h1, if_pos h1]; rfl
  · by_cases h2 : Op.bytesLess t s = true
    · rw [if_pos h2, if_neg h1, if_pos h2]
    · rw [if_neg h2, if_neg h1, if_neg h1, if_neg h2]; rfl
theorem cmpL_anti : ∀ (l : List S30), (∀ x ∈ l, ∀ y, cmpM y x = - cmpM x y) → ∀ m, cmpL m l = - cmpL l m
  | [], _, [] => by rw [cmpL]; rfl
  | [], _, _ :: _ => by rw [cmpL, cmpL]; rfl
  | _ :: _, _, [] => by rw [cmpL, cmpL]; rfl
  | x :: r, h, y :: m => by
    rw [cmpL, cmpL]
    have h1 := h x List.mem_cons_self y
    have h2 := cmpL_anti r (fun z hz => h z (List.mem_cons_of_mem _ hz)) m
    by_cases h0 : cmpM x y = 0
    · rw [if_pos h0, if_pos (by omega), h2]
    · rw [if_neg h0, if_neg (by omega), h1]
theorem cmp_anti : ∀ x y, cmpM y x = - cmpM x y := by
  refine indI (fun a b s l ih y => ?_)
  obtain ⟨a2, b2, s2, m⟩ := y
  rw [cmpM, cmpM]
  simp only
  by_cases h : a = a2
  · subst h
    rw [if_pos rfl, if_pos rfl]
    by_cases c1 : a = 1 ∨ a = 3
    · rw [if_pos c1, if_pos c1]; exact cI_anti _ _
    rw [if_neg c1, if_neg c1]
    by_cases c2 : a = 2
    · rw [if_pos c2, if_pos c2]; exact cB_anti _ _
    rw [if_neg c2, if_neg c2]
    have hL := cmpL_anti l ih m
    by_cases c4 : a = 4
    · rw [if_pos c4, if_pos c4]
      by_cases hl : l.length = m.length
      · rw [if_pos hl, if_pos hl.symm]; exact hL
      · rw [if_neg hl, if_neg (fun e => hl e.symm)]; exact cI_anti _ _
    rw [if_neg c4, if_neg c4]
    by_cases c5 : a = 5
    · rw [if_pos c5, if_pos c5]; exact hL
    · rw [if_neg c5, if_neg c5]; rfl
  · rw [if_neg h, if_neg (fun e => h e.symm)]; exact cI_anti _ _
theorem cmpInt_eq (x y : Int) : cmp_Compare_int.f x y = some (cI x y) := by
  unfold cmp_Compare_int.f cmp_isNaN_int.f cI
  have h1 : (x != x) = false := by simp
  have h2 : (y != y) = false := by simp
  simp only [Option.bind_some, h1, h2]
  rw [if_neg (by decide), if_neg (by decide)]
  split
  · rfl
  · split <;> rfl
theorem cmpStr_eq (x y : ByteArray) : cmp_Compare_string.f x y = some (cB x.toList y.toList) := by
  unfold cmp_Compare_string.f cmp_isNaN_string.f cB
  have h1 : (x.toList != x.toList) = false := by simp
  have h2 : (y.toList != y.toList) = false := by simp
  simp only [Option.bind_some, h1, h2]
  rw [if_neg (by decide), if_neg (by decide)]
  split
  · rfl
  · split <;> rfl
theorem cmpF_loop (l m : List S30) (hl : (l.length : Int) ≤ 4194304) (h : ∀ x ∈ l, ∀ y ∈ m, Ev (fun k => impl_compareTerms.f k x.f0 x.f1 x.f2 x.f3 y.f0 y.f1 y.f2 y.f3) (cmpM x y)) (d : Nat) :
    ∀ (i : Nat), i + d = l.length → Ev (fun k => slices_CompareFunc_of_impl_compareTerms.l0 k l m l (l.length : Int) i) (cmpL (l.drop i) (m.drop i)) := by
  induction d with
  | zero =>
    intro i hi
    refine Ev.step (f := fun _ => if (l.length : Int) < (m.length : Int) then (some (-1)) else (some 0)) (fun k => ?_) ?_
    · simp only [slices_CompareFunc_of_impl_compareTerms.l0]; rw [if_neg (by omega)]
    · rw [List.drop_eq_nil_of_le (by omega), cmpL]
      by_cases hm : l.length < m.length
      · refine ev_pos (by omega) (ev_cast ?_ (Ev.now _))
        rw [List.drop_eq_getElem_cons (by omega)]; rfl
      · refine ev_neg (by omega) (ev_cast ?_ (Ev.now _))
        rw [List.drop_eq_nil_of_le (by omega)]; rfl
  | succ d ih =>
    intro i hi
    have hlt : i < l.length := by omega
    have hn := ih (i + 1) (by omega)
    by_cases hm : i < m.length
    · have e := h _ (rdI_mem l i hlt) _ (rdI_mem m i hm)
      rw [dropI l i hlt, dropI m i hm, cmpL]
      generalize hy : rd_T30 l i = y at *
      generalize hz : rd_T30 m i = z at *
      refine Ev.step (f := fun k => (impl_compareTerms.f k y.f0 y.f1 y.f2 y.f3 z.f0 z.f1 z.f2 z.f3).bind fun t => (if t = 0 then (slices_CompareFunc_of_impl_compareTerms.l0 k l m l (l.length : Int) (wrap64 ((i : Int) + 1))) else (some t))) (fun k => ?_) (Ev.bind e ?_)
      · simp only [slices_CompareFunc_of_impl_compareTerms.l0]
        rw [if_pos (by omega), if_pos (by omega), if_pos (by omega), if_neg (by omega), if_pos (by omega), hy, hz]
      · rw [w64 _ (by omega) (by omega)]
        by_cases h0 : cmpM y z = 0
        · rw [if_pos h0]; exact ev_pos h0 hn
        · rw [if_neg h0]; exact ev_neg h0 (Ev.now _)
    · refine Ev.step (f := fun _ => some 1) (fun k => ?_) (ev_cast ?_ (Ev.now _))
      · simp only [slices_CompareFunc_of_impl_compareTerms.l0]
        rw [if_pos (by omega), if_pos (by omega), if_pos (by omega), if_pos (by omega)]
      · rw [dropI l i hlt, List.drop_eq_nil_of_le (show m.length ≤ i by omega), cmpL]
theorem impl_cmp_all : ∀ x, (budI x : Int) ≤ 4194304 → ∀ y, Ev (fun k => impl_compareTerms.f k x.f0 x.f1 x.f2 x.f3 y.f0 y.f1 y.f2 y.f3) (cmpM x y) := by
  refine indI (fun a b s l ih hb y => ?_)
  obtain ⟨a2, b2, s2, m⟩ := y
  rw [budI_mk] at hb
  have hll := budIL_len l
  have hf : Ev (fun k => slices_CompareFunc_of_impl_compareTerms.f k l m) (cmpL l m) := by
    have e := cmpF_loop l m (by omega) (fun x hx y _ => ih x hx (by have := budI_mem l x hx; omega) y) l.length 0 (by omega)
    exact Ev.step (fun k => by simp only [slices_CompareFunc_of_impl_compareTerms.f]; rfl) e
  rw [cmpM]
  show Ev (fun k => impl_compareTerms.f k a b s l a2 b2 s2 m) _
  simp only
  by_cases h : a = a2
  · subst h
    rw [if_pos rfl]
    have key : ∀ q : Bool, (q = true ↔ (a = 1 ∨ a = 3)) → Ev (fun k => impl_compareTerms.j0 k a q a b s l a b2 s2 m) (if a = 1 ∨ a = 3 then cI b b2 else if a = 2 then cB s.toList s2.toList else if a = 4 then (if l.length = m.length then cmpL l m else cI l.length m.length) else if a = 5 then cmpL l m else 0) := by
      intro q hq
      by_cases c1 : a = 1 ∨ a = 3
      · rw [if_pos c1]
        refine Ev.step (f := fun k => (cmp_Compare_int.f b b2).bind fun t273 => (some t273)) (fun k => ?_) (Ev.bind (ev_of (cmpInt_eq _ _)) (Ev.now _))
        simp only [impl_compareTerms.j0]; rw [if_pos (hq.2 c1)]
      have hq2 : ¬ q = true := fun e => c1 (hq.1 e)
      rw [if_neg c1]
      by_cases c2 : a = 2
      · rw [if_pos c2]
        refine Ev.step (f := fun k => (cmp_Compare_string.f s s2).bind fun t274 => (some t274)) (fun k => ?_) (Ev.bind (ev_of (cmpStr_eq _ _)) (Ev.now _))
        simp only [impl_compareTerms.j0]; rw [if_neg hq2, if_pos c2]
      rw [if_neg c2]
      by_cases c4 : a = 4
      · rw [if_pos c4]
        refine Ev.step (f := fun k => (if (l.length : Int) = (m.length : Int) then ((slices_CompareFunc_of_impl_compareTerms.f k l m).bind fun t275 => (some t275)) else ((cmp_Compare_int.f (l.length : Int) (m.length : Int)).bind fun t276 => (some t276)))) (fun k => ?_) ?_
        · simp only [impl_compareTerms.j0]; rw [if_neg hq2, if_neg c2, if_pos c4]
        · by_cases hl : l.length = m.length
          · rw [if_pos hl]; exact ev_pos (by omega) (Ev.bind hf (Ev.now _))
          · rw [if_neg hl]; exact ev_neg (by omega) (Ev.bind (ev_of (cmpInt_eq _ _)) (Ev.now _))
      rw [if_neg c4]
      by_cases c5 : a = 5
      · rw [if_pos c5]
        refine Ev.step (f := fun k => ((slices_CompareFunc_of_impl_compareTerms.f k l m).bind fun t277 => (some t277))) (fun k => ?_) (Ev.bind hf (Ev.now _))
        simp only [impl_compareTerms.j0]; rw [if_neg hq2, if_neg c2, if_neg c4, if_pos c5]
      · rw [if_neg c5]
        refine Ev.step (f := fun _ => some 0) (fun k => ?_) (Ev.now _)
        simp only [impl_compareTerms.j0]; rw [if_neg hq2, if_neg c2, if_neg c4, if_neg c5]
    by_cases c1 : a = 1
    · refine Ev.step (f := fun k => impl_compareTerms.j0 k a (a == 1) a b s l a b2 s2 m) (fun k => ?_) (key _ (by rw [beq_iff_eq]; omega))
      simp only [impl_compareTerms.f]; rw [if_pos trivial, if_pos c1]
    · refine Ev.step (f := fun k => impl_compareTerms.j0 k a (a == 3) a b s l a b2 s2 m) (fun k => ?_) (key _ (by rw [beq_iff_eq]; omega))
      simp only [impl_compareTerms.f]; rw [if_pos trivial, if_neg c1]
  · rw [if_neg h]
    refine Ev.step (f := fun k => (cmp_Compare_int.f a a2).bind fun t272 => (some t272)) (fun k => ?_) (Ev.bind (ev_of (cmpInt_eq _ _)) (Ev.now _))
    simp only [impl_compareTerms.f]; rw [if_neg h]
theorem impl_LessTerm_ev (x y : S30) (hb : (budI x : Int) ≤ 4194304) : Ev (fun k => impl_LessTerm.f k x.f0 x.f1 x.f2 x.f3 y.f0 y.f1 y.f2 y.f3) (decide (cmpM x y < 0)) := by
  unfold impl_LessTerm.f
  exact Ev.bind (impl_cmp_all x hb y) (Ev.now _)
theorem copyT_loop (l : List S30) (hl : (l.length : Int) ≤ 4194304) (h : ∀ y ∈ l, Ev (fun k => impl_copyTerm.f k y.f0 y.f1 y.f2 y.f3) (y.f0, y.f1, y.f2, y.f3)) (d : Nat) :
    ∀ (i : Nat) (acc : List S30), i + d = l.length → acc.length ≤ i → Ev (fun k => impl_copyTerms.l0 k acc l (l.length : Int) i) (acc ++ l.drop i) := by
  induction d with
  | zero =>
    intro i acc hi ha
    refine Ev.step (f := fun _ => some acc) (fun k => ?_) (ev_cast ?_ (Ev.now _))
    · simp only [impl_copyTerms.l0]; rw [if_neg (by omega)]
    · rw [List.drop_eq_nil_of_le (by omega), List.append_nil]
  | succ d ih =>
    intro i acc hi ha
    have hlt : i < l.length := by omega
    refine Ev.step (f := fun k => (impl_copyTerm.f k l[i].f0 l[i].f1 l[i].f2 l[i].f3).bind fun bt => (if acc.length < 2513169434916 then (impl_copyTerms.l0 k (acc ++ [(⟨bt.1, bt.2.1, bt.2.2.1, bt.2.2.2⟩ : S30)]) l (l.length : Int) (wrap64 ((i : Int) + 1))) else none)) (fun k => ?_) (Ev.bind (h l[i] (List.getElem_mem hlt)) (ev_pos (by omega) ?_))
    · simp only [impl_copyTerms.l0]
      rw [if_pos (by omega), if_pos (by omega), if_pos (by omega), rdIx2 l i hlt]
    · rw [w64 _ (by omega) (by omega)]
      have e := ih (i + 1) (acc ++ [l[i]]) (by omega) (by rw [List.length_append]; simp; omega)
      rw [List.append_assoc, List.singleton_append, ← List.drop_eq_getElem_cons hlt] at e
      simp only [etaI]
      exact e
theorem copyTs_of (l : List S30) (hl : (l.length : Int) ≤ 4194304) (h : ∀ y ∈ l, Ev (fun k => impl_copyTerm.f k y.f0 y.f1 y.f2 y.f3) (y.f0, y.f1, y.f2, y.f3)) : Ev (fun k => impl_copyTerms.f k l) l := by
  have e := copyT_loop l hl h l.length 0 [] (by omega) (by simp)
  rw [List.drop_zero, List.nil_append] at e
  exact Ev.step (fun k => by simp only [impl_copyTerms.f]; rfl) e
theorem copyT_all : ∀ x : S30, (budI x : Int) ≤ 4194304 → Ev (fun k => impl_copyTerm.f k x.f0 x.f1 x.f2 x.f3) (x.f0, x.f1, x.f2, x.f3) := by
  refine indI (fun a b s l ih hb => ?_)
  rw [budI_mk] at hb
  have hll := budIL_len l
  refine Ev.step (fun k => by simp only [impl_copyTerm.f]; rfl) (Ev.bind (copyTs_of l (by omega) (fun y hy => ih y hy (by have := budI_mem l y hy; omega))) (Ev.now _))
def Gt (l : List S30) (q : Nat) : S30 := rd_T30 l (q : Int)
theorem Gt_get (l : List S30) (q : Nat) (h : q < l.length) : Gt l q = l[q] := rdIx2 l q h
theorem Gt_mem (l : List S30) (q : Nat) (h : q < l.length) : Gt l q ∈ l := rdI_mem l q h
def OkT (x : S30) : Prop := budI x ≤ 1000 ∧ goodM x 3 = true
def swT (l : List S30) (j : Nat) : List S30 := (l.set (j + 1) (Gt l j)).set j (Gt l (j + 1))
theorem swT_len (l : List S30) (j : Nat) : (swT l j).length = l.length := by unfold swT; rw [List.length_set, List.length_set]
theorem swT_perm (l : List S30) (j : Nat) (h : j + 1 < l.length) : (swT l j).Perm l := by
  unfold swT
  rw [Gt_get l j (by omega), Gt_get l (j + 1) h]
  exact List.set_set_perm h (by omega)
theorem swT_at (l : List S30) (j q : Nat) (h : j + 1 < l.length) (hq : q < l.length) : Gt (swT l j) q = if q = j then Gt l (j + 1) else if q = j + 1 then Gt l j else Gt l q := by
  rw [Gt_get _ q (by rw [swT_len]; exact hq)]
  unfold swT
  rw [List.getElem_set]
  by_cases h1 : j = q
  · rw [if_pos h1, if_pos h1.symm]
  · rw [if_neg h1, if_neg (fun e => h1 e.symm), List.getElem_set]
    by_cases h2 : j + 1 = q
    · rw [if_pos h2, if_pos h2.symm]
    · rw [if_neg h2, if_neg (fun e => h2 e.symm), Gt_get l q hq]
def SrtT (l : List S30) : Prop := ∀ q, q + 1 < l.length → ¬ cmpM (Gt l (q + 1)) (Gt l q) < 0
def InvT (l : List S30) (i j : Nat) : Prop := (∀ q, q + 1 ≤ i → q + 1 ≠ j → ¬ cmpM (Gt l (q + 1)) (Gt l q) < 0) ∧ (0 < j → j + 1 ≤ i → ¬ cmpM (Gt l (j + 1)) (Gt l (j - 1)) < 0)
theorem cmpT_ev (l : List S30) (ho : ∀ x ∈ l, OkT x) (p q : Nat) (hp : p < l.length) : Ev (fun k => impl_compareTerms.f k (Gt l p).f0 (Gt l p).f1 (Gt l p).f2 (Gt l p).f3 (Gt l q).f0 (Gt l q).f1 (Gt l q).f2 (Gt l q).f3) (cmpM (Gt l p) (Gt l q)) :=
  impl_cmp_all _ (by have := (ho _ (Gt_mem l p hp)).1; omega) _
theorem ins_in (n i : Nat) (hi : i < n) (hn : n < 20) (next : ∀ l : List S30, l.length = n → (∀ x ∈ l, OkT x) → (∀ q, q + 1 ≤ i → ¬ cmpM (Gt l (q + 1)) (Gt l q) < 0) → ∃ r, Ev (fun k => slices_insertionSortCmpFunc_of_impl_compareTerms.l0 k l 0 n ((i + 1 : Nat) : Int)) r ∧ r.Perm l ∧ SrtT r) :
    ∀ (j : Nat) (l : List S30), j ≤ i → l.length = n → (∀ x ∈ l, OkT x) → InvT l i j → ∃ r, Ev (fun k => slices_insertionSortCmpFunc_of_impl_compareTerms.l1 k l 0 n i j) r ∧ r.Perm l ∧ SrtT r := by
  intro j
  induction j with
  | zero =>
    intro l hj hl ho hv
    obtain ⟨r, e, hp, hs⟩ := next l hl ho (fun q hq => hv.1 q hq (by omega))
    refine ⟨r, Ev.step (fun k => ?_) e, hp, hs⟩
    simp only [slices_insertionSortCmpFunc_of_impl_compareTerms.l1]
    rw [if_neg (by omega), w64 _ (by omega) (by omega)]
    rfl
  | succ j ih =>
    intro l hj hl ho hv
    have e := cmpT_ev l ho (j + 1) j (by omega)
    have hw : wrap64 (((j + 1 : Nat) : Int) - 1) = (j : Int) := by rw [w64 _ (by omega) (by omega)]; omega
    have step : ∀ k, slices_insertionSortCmpFunc_of_impl_compareTerms.l1 (k + 1) l 0 n i ((j + 1 : Nat) : Int) = (impl_compareTerms.f k (Gt l (j + 1)).f0 (Gt l (j + 1)).f1 (Gt l (j + 1)).f2 (Gt l (j + 1)).f3 (Gt l j).f0 (Gt l j).f1 (Gt l j).f2 (Gt l j).f3).bind fun t => (if t < 0 then (slices_insertionSortCmpFunc_of_impl_compareTerms.l1 k (swT l j) 0 n i (j : Int)) else (slices_insertionSortCmpFunc_of_impl_compareTerms.l0 k l 0 n ((i + 1 : Nat) : Int))) := fun k => by
      simp only [slices_insertionSortCmpFunc_of_impl_compareTerms.l1]
      rw [hw, if_pos (by omega), if_pos (by omega), if_pos (by omega), if_pos (by omega), if_pos (by omega), w64 ((i : Int) + 1) (by omega) (by omega)]
      simp only [etaI]
      rfl
    by_cases hc : cmpM (Gt l (j + 1)) (Gt l j) < 0
    · have ha := cmp_anti (Gt l (j + 1)) (Gt l j)
      obtain ⟨r, e2, hp, hs⟩ := ih (swT l j) (by omega) (by rw [swT_len]; exact hl) (fun x hx => ho x ((swT_perm l j (by omega)).mem_iff.1 hx)) ⟨fun q hq hne => by
          rw [swT_at l j q (by omega) (by omega), swT_at l j (q + 1) (by omega) (by omega)]
          by_cases h1 : q = j
          · rw [if_pos h1, if_neg (by omega), if_pos (by omega)]; (try omega)
          · rw [if_neg h1]
            by_cases h2 : q = j + 1
            · subst h2
              rw [if_pos rfl, if_neg (by omega), if_neg (by omega)]
              exact hv.2 (by omega) (by omega)
            · rw [if_neg h2, if_neg hne, if_neg (by omega)]
              exact hv.1 q hq (by omega), fun h0 _ => by
          rw [swT_at l j (j + 1) (by omega) (by omega), swT_at l j (j - 1) (by omega) (by omega), if_neg (by omega), if_pos rfl, if_neg (by omega), if_neg (by omega)]
          have := hv.1 (j - 1) (by omega) (by omega)
          rw [show j - 1 + 1 = j by omega] at this
          exact this⟩
      exact ⟨r, Ev.step step (Ev.bind e (ev_pos hc e2)), hp.trans (swT_perm l j (by omega)), hs⟩
    · obtain ⟨r, e2, hp, hs⟩ := next l hl ho (fun q hq => by
        by_cases h1 : q = j
        · subst h1; exact hc
        · exact hv.1 q hq (by omega))
      exact ⟨r, Ev.step step (Ev.bind e (ev_neg hc e2)), hp, hs⟩
theorem ins_out (n : Nat) (hn : n < 20) (d : Nat) : ∀ (i : Nat) (l : List S30), n ≤ i + d → l.length = n → (∀ x ∈ l, OkT x) → (∀ q, q + 1 < i → q + 1 < n → ¬ cmpM (Gt l (q + 1)) (Gt l q) < 0) → ∃ r, Ev (fun k => slices_insertionSortCmpFunc_of_impl_compareTerms.l0 k l 0 n (i : Int)) r ∧ r.Perm l ∧ SrtT r := by
  induction d with
  | zero =>
    intro i l hd hl ho hp
    refine ⟨l, Ev.step (f := fun _ => some l) (fun k => ?_) (Ev.now _), List.Perm.refl _, fun q hq => hp q (by omega) (by omega)⟩
    simp only [slices_insertionSortCmpFunc_of_impl_compareTerms.l0]; rw [if_neg (by omega)]
  | succ d ih =>
    intro i l hd hl ho hp
    by_cases hi : i < n
    · obtain ⟨r, e, h1, h2⟩ := ins_in n i hi hn (fun l2 hl2 ho2 hp2 => ih (i + 1) l2 (by omega) hl2 ho2 (fun q hq _ => hp2 q (by omega))) i l (Nat.le_refl _) hl ho ⟨fun q hq hne => hp q (by omega) (by omega), fun _ h => by omega⟩
      refine ⟨r, Ev.step (fun k => ?_) e, h1, h2⟩
      simp only [slices_insertionSortCmpFunc_of_impl_compareTerms.l0]; rw [if_pos (by omega)]
    · refine ⟨l, Ev.step (f := fun _ => some l) (fun k => ?_) (Ev.now _), List.Perm.refl _, fun q hq => hp q (by omega) (by omega)⟩
      simp only [slices_insertionSortCmpFunc_of_impl_compareTerms.l0]; rw [if_neg (by omega)]
theorem ins_same (l : List S30) (n : Nat) (hn : n < 20) (hl : l.length = n) (ho : ∀ x ∈ l, OkT x) (hs : SrtT l) (d : Nat) : ∀ i : Nat, n ≤ i + d → 1 ≤ i → Ev (fun k => slices_insertionSortCmpFunc_of_impl_compareTerms.l0 k l 0 n (i : Int)) l := by
  induction d with
  | zero =>
    intro i hd h1
    refine Ev.step (f := fun _ => some l) (fun k => ?_) (Ev.now _)
    simp only [slices_insertionSortCmpFunc_of_impl_compareTerms.l0]; rw [if_neg (by omega)]
  | succ d ih =>
    intro i hd h1
    by_cases hi : i < n
    · obtain ⟨j, rfl⟩ : ∃ j, i = j + 1 := ⟨i - 1, by omega⟩
      have e := cmpT_ev l ho (j + 1) j (by omega)
      have hw : wrap64 (((j + 1 : Nat) : Int) - 1) = (j : Int) := by rw [w64 _ (by omega) (by omega)]; omega
      have e2 := ih (j + 1 + 1) (by omega) (by omega)
      refine Ev.step (f := fun k => slices_insertionSortCmpFunc_of_impl_compareTerms.l1 k l 0 n ((j + 1 : Nat) : Int) ((j + 1 : Nat) : Int)) (fun k => ?_) (Ev.step (f := fun k => (impl_compareTerms.f k (Gt l (j + 1)).f0 (Gt l (j + 1)).f1 (Gt l (j + 1)).f2 (Gt l (j + 1)).f3 (Gt l j).f0 (Gt l j).f1 (Gt l j).f2 (Gt l j).f3).bind fun t => (if t < 0 then (slices_insertionSortCmpFunc_of_impl_compareTerms.l1 k (swT l j) 0 n ((j + 1 : Nat) : Int) (j : Int)) else (slices_insertionSortCmpFunc_of_impl_compareTerms.l0 k l 0 n ((j + 1 + 1 : Nat) : Int)))) (fun k => ?_) (Ev.bind e (ev_neg (hs j (by omega)) e2)))
      · simp only [slices_insertionSortCmpFunc_of_impl_compareTerms.l0]; rw [if_pos (by omega)]
      · simp only [slices_insertionSortCmpFunc_of_impl_compareTerms.l1]
        rw [hw, if_pos (by omega), if_pos (by omega), if_pos (by omega), if_pos (by omega), if_pos (by omega), w64 (((j + 1 : Nat) : Int) + 1) (by omega) (by omega)]
        simp only [etaI]
        rfl
    · refine Ev.step (f := fun _ => some l) (fun k => ?_) (Ev.now _)
      simp only [slices_insertionSortCmpFunc_of_impl_compareTerms.l0]; rw [if_neg (by omega)]
theorem budIL_ok : ∀ l : List S30, (∀ x ∈ l, OkT x) → ∀ x ∈ l, Ev (fun k => impl_copyTerm.f k x.f0 x.f1 x.f2 x.f3) (x.f0, x.f1, x.f2, x.f3) := fun l h x hx => copyT_all x (by have := (h x hx).1; omega)
theorem sort_ev (l : List S30) (hn : l.length < 20) (ho : ∀ x ∈ l, OkT x) : ∃ r, Ev (fun k => impl_SortTerms.f k l) r ∧ r.Perm l ∧ SrtT r := by
  obtain ⟨r, e, h1, h2⟩ := ins_out l.length hn l.length 1 l (by omega) rfl ho (fun q hq => by omega)
  refine ⟨r, ?_, h1, h2⟩
  unfold impl_SortTerms.f
  refine Ev.bind (copyTs_of l (by omega) (budIL_ok l ho)) (ev_pos hn ?_)
  unfold slices_insertionSortCmpFunc_of_impl_compareTerms.f
  rw [show wrap64 (0 + 1) = ((1 : Nat) : Int) from by rw [w64 _ (by omega) (by omega)]; rfl]
  exact e
theorem sort_same (l : List S30) (hn : l.length < 20) (ho : ∀ x ∈ l, OkT x) (hs : SrtT l) : Ev (fun k => impl_SortTerms.f k l) l := by
  have e := ins_same l l.length hn rfl ho hs l.length 1 (by omega) (by omega)
  unfold impl_SortTerms.f
  refine Ev.bind (copyTs_of l (by omega) (budIL_ok l ho)) (ev_pos hn ?_)
  unfold slices_insertionSortCmpFunc_of_impl_compareTerms.f
  rw [show wrap64 (0 + 1) = ((1 : Nat) : Int) from by rw [w64 _ (by omega) (by omega)]; rfl]
  exact e
def Cur (b : List Int) (i : Int) : Prop := 0 ≤ i ∧ i ≤ b.length ∧ (b.length : Int) ≤ 1048576
theorem and255 (x : Int) : 0 ≤ Go.bits .and .i64 x 255 ∧ Go.bits .and .i64 x 255 ≤ 255 := by
  have h : Go.bits .and .i64 x 255 = IntKind.i64.wrap (((BitVec.ofInt 64 x) &&& (BitVec.ofInt 64 255)).toNat : Int) := rfl
  have h2 : ((BitVec.ofInt 64 x) &&& (BitVec.ofInt 64 255)).toNat ≤ 255 := by
    rw [BitVec.toNat_and]
    exact Nat.and_le_right
  rw [h, hk63 _ (by omega) (by omega)]
  omega
theorem spec_l1Byte_eq (b : List Int) (i h : Int) (hc : Cur b i) : ∃ v i2 h2, spec_l1Byte.f b i h = some (v, i2, h2) ∧ 0 ≤ v ∧ v ≤ 255 ∧ Cur b i2 := by
  unfold spec_l1Byte.f
  obtain ⟨h0, h1, h2⟩ := hc
  by_cases hi : i < (b.length : Int)
  · rw [if_pos hi, if_pos h0, w64 (i + 1) (by omega) (by omega)]
    exact ⟨_, _, _, rfl, (and255 _).1, (and255 _).2, by omega, by omega, h2⟩
  · rw [if_neg hi]
    exact ⟨_, _, _, rfl, (and255 _).1, (and255 _).2, h0, h1, h2⟩
theorem spec_l1Below_eq (b : List Int) (i h n : Int) (hc : Cur b i) : ∃ v i2 h2, spec_l1Below.f b i h n = some (v, i2, h2) ∧ 0 ≤ v ∧ (0 < n → v < n) ∧ (n ≤ 0 → v = 0) ∧ Cur b i2 := by
  unfold spec_l1Below.f
  by_cases h0 : n ≤ 0
  · rw [if_pos h0]
    exact ⟨0, i, h, rfl, by omega, by omega, fun _ => rfl, hc⟩
  rw [if_neg h0]
  by_cases h1 : n ≤ 256
  · rw [if_pos h1]
    obtain ⟨v, i2, h2, e, v0, v1, c2⟩ := spec_l1Byte_eq b i h hc
    rw [e]
    simp only [Option.bind_some]
    rw [if_neg (by omega)]
    refine ⟨_, _, _, rfl, ?_, fun _ => ?_, by omega, c2⟩
    · rw [Int.tmod_eq_emod_of_nonneg v0]; exact Int.emod_nonneg _ (by omega)
    · rw [Int.tmod_eq_emod_of_nonneg v0]; exact Int.emod_lt_of_pos _ (by omega)
  · rw [if_neg h1]
    obtain ⟨x, i2, h2, e, x0, x1, c2⟩ := spec_l1Byte_eq b i h hc
    rw [e]
    simp only [Option.bind_some]
    obtain ⟨y, i3, h3, e3, y0, y1, c3⟩ := spec_l1Byte_eq b i2 h2 c2
    rw [e3]
    simp only [Option.bind_some]
    obtain ⟨z, i4, h4, e4, z0, z1, c4⟩ := spec_l1Byte_eq b i3 h3 c3
    rw [e4]
    simp only [Option.bind_some]
    rw [if_neg (by omega), w64 (x * 65536) (by omega) (by omega), w64 (y * 256) (by omega) (by omega), w64 (x * 65536 + y * 256) (by omega) (by omega), w64 (x * 65536 + y * 256 + z) (by omega) (by omega)]
    refine ⟨_, _, _, rfl, ?_, fun _ => ?_, by omega, c4⟩
    · rw [Int.tmod_eq_emod_of_nonneg (by omega)]; exact Int.emod_nonneg _ (by omega)
    · rw [Int.tmod_eq_emod_of_nonneg (by omega)]; exact Int.emod_lt_of_pos _ (by omega)
theorem spec_l1Int_eq (b : List Int) (i h : Int) (l : List Int) (hl : 0 < l.length) (hc : Cur b i) : ∃ v i2 h2, spec_l1Int.f b i h l = some (v, i2, h2) ∧ v ∈ l ∧ Cur b i2 := by
  unfold spec_l1Int.f
  obtain ⟨v, i2, h2, e, v0, v1, _, c2⟩ := spec_l1Below_eq b i h l.length hc
  rw [e]
  simp only [Option.bind_some]
  have v2 := v1 (by omega)
  rw [if_pos v0, if_pos v2]
  refine ⟨_, _, _, rfl, ?_, c2⟩
  unfold rd
  have hv : v.toNat < l.length := by omega
  simp [List.getD_eq_getElem?_getD, List.getElem?_eq_getElem hv]
theorem spec_l1Str_eq (b : List Int) (i h : Int) (l : List ByteArray) (hl : 0 < l.length) (hc : Cur b i) : ∃ v i2 h2, spec_l1Str.f b i h l = some (v, i2, h2) ∧ v ∈ l ∧ Cur b i2 := by
  unfold spec_l1Str.f
  obtain ⟨v, i2, h2, e, v0, v1, _, c2⟩ := spec_l1Below_eq b i h l.length hc
  rw [e]
  simp only [Option.bind_some]
  have v2 := v1 (by omega)
  rw [if_pos v0, if_pos v2]
  refine ⟨_, _, _, rfl, ?_, c2⟩
  unfold rdOf
  have hv : v.toNat < l.length := by omega
  simp [List.getD_eq_getElem?_getD, List.getElem?_eq_getElem hv]
theorem budIL_app : ∀ (l m : List S30), budIL (l ++ m) = budIL l + budIL m
  | [], m => by rw [List.nil_append, budIL]; omega
  | x :: r, m => by rw [List.cons_append, budIL, budIL, budIL_app r m]; omega
theorem budIL_one (x : S30) : budIL [x] = 1 + budI x := by rw [budIL, budIL]; rfl
theorem goodL_of : ∀ (l : List S30) (n : Nat), (∀ y ∈ l, goodM y n = true) → goodML l n = true
  | [], n, _ => by rw [goodML]
  | x :: r, n, h => by
    rw [goodML, h x List.mem_cons_self, goodL_of r n (fun y hy => h y (List.mem_cons_of_mem _ hy))]; rfl
theorem good_up : ∀ x, ∀ n, goodM x n = true → goodM x (n + 1) = true := by
  refine indI (fun a b s l ih n h => ?_)
  obtain ⟨m, rfl, hs, hl⟩ := good_mk h
  rw [goodM, hs, goodL_of l (m + 1) (fun y hy => ih y hy m (goodL_mem l m hl y hy))]; rfl
theorem good_le (x : S30) (n : Nat) (h : goodM x n = true) (d : Nat) : goodM x (n + d) = true := by
  induction d with
  | zero => exact h
  | succ d ih => exact good_up x _ ih
/-- A term as the drawing makes them. -/
def Nice (B n : Nat) (x : S30) : Prop := budI x ≤ B ∧ goodM x n = true
theorem drawN_l (b : List Int) (d : Nat) (hd : d ≤ 3) (B : Nat)
    (ih : 0 < d → ∀ i h, Cur b i → ∃ (x : S30) (i2 h2 : Int), Ev (fun k => spec_l2Draw.f k b i h ((d - 1 : Nat) : Int)) (x.f0, x.f1, x.f2, x.f3, i2, h2) ∧ Nice B d x ∧ Cur b i2) (t0 t1 : Int) (s : ByteArray) :
    ∀ (n : Nat) (l : List S30) (i h : Int), n ≤ 3 → budIL l + n * (B + 1) ≤ 60000 → (∀ y ∈ l, goodM y d = true) → Cur b i → ∃ l2 i2 h2, Ev (fun k => spec_l2Draw.l0 k d n b i h t0 t1 s l) (t0, t1, s, l2, i2, h2) ∧ (budIL l2 ≤ budIL l + n * (B + 1) ∧ l2.length ≤ l.length + n ∧ ∀ y ∈ l2, goodM y d = true) ∧ Cur b i2 := by
  intro n
  induction n with
  | zero =>
    intro l i h hn hl hg hc
    refine ⟨l, i, h, Ev.step (f := fun _ => some (t0, t1, s, l, i, h)) (fun k => ?_) (Ev.now _), ⟨by omega, by omega, hg⟩, hc⟩
    simp only [spec_l2Draw.l0]; rw [if_neg (by omega)]
  | succ n ihn =>
    intro l i h hn hl hg hc
    rw [Nat.succ_mul] at hl
    by_cases h0 : (d : Int) > 0
    · obtain ⟨x, i2, h2, e, ⟨hx, hxg⟩, c2⟩ := ih (by omega) i h hc
      have hlen := budIL_len l
      have ha := budIL_app l [x]
      rw [budIL_one] at ha
      obtain ⟨l3, i3, h3, e3, ⟨hl3, hn3, hg3⟩, c3⟩ := ihn (l ++ [x]) i2 h2 (by omega) (by omega) (fun y hy => by
        rcases List.mem_append.1 hy with hy | hy
        · exact hg y hy
        · rw [List.mem_singleton] at hy; rw [hy]; exact hxg) c2
      refine ⟨l3, i3, h3, Ev.step (f := fun k => (spec_l2Draw.f k b i h ((d - 1 : Nat) : Int)).bind fun bt => (if l.length < 2513169434916 then (spec_l2Draw.l0 k d (wrap64 (((n + 1 : Nat) : Int) - 1)) b bt.2.2.2.2.1 bt.2.2.2.2.2 t0 t1 s (l ++ [(⟨bt.1, bt.2.1, bt.2.2.1, bt.2.2.2.1⟩ : S30)])) else none)) (fun k => ?_) (Ev.bind e (ev_pos (by omega) ?_)), ⟨?_, ?_, hg3⟩, c3⟩
      · simp only [spec_l2Draw.l0]; rw [if_pos (by omega), if_pos h0, w64 ((d : Int) - 1) (by omega) (by omega), show (d : Int) - 1 = ((d - 1 : Nat) : Int) from by omega]
      · rw [w64 _ (by omega) (by omega), show ((n + 1 : Nat) : Int) - 1 = (n : Int) from by omega]
        simp only [etaI]
        exact e3
      · rw [Nat.succ_mul]; omega
      · rw [List.length_append, List.length_singleton] at hn3; omega
    · refine ⟨l, i, h, Ev.step (f := fun _ => some (t0, t1, s, l, i, h)) (fun k => ?_) (Ev.now _), ⟨by omega, by omega, hg⟩, hc⟩
      simp only [spec_l2Draw.l0]; rw [if_pos (by omega), if_neg h0]
def drawB : Nat → Nat
  | 0 => 4
  | d + 1 => 3 * drawB d + 4
theorem drawB_hi (d : Nat) (h : d ≤ 3) : drawB d ≤ 160 := by
  have : d = 0 ∨ d = 1 ∨ d = 2 ∨ d = 3 := by omega
  rcases this with rfl | rfl | rfl | rfl <;> decide
theorem noText_nil : noText ⟨#[]⟩ = true := by unfold noText; rw [Go.Lib.toList_data]; rfl
theorem good1 (d : Nat) (n : Int) (h : -1000000000000 ≤ n ∧ n ≤ 1000000000000) : goodM ⟨1, n, ⟨#[]⟩, []⟩ (d + 1) = true := by
  rw [goodM, goodML]
  unfold shapeM
  rw [noText_nil]
  rw [if_pos rfl, decide_eq_true h.1, decide_eq_true h.2]; rfl
theorem good3 (d : Nat) (n : Int) (h : 0 ≤ n ∧ n ≤ 1000000) : goodM ⟨3, n, ⟨#[]⟩, []⟩ (d + 1) = true := by
  rw [goodM, goodML]
  unfold shapeM
  rw [noText_nil]
  rw [if_neg (by decide), if_neg (by decide), if_pos rfl, decide_eq_true h.1, decide_eq_true h.2]; rfl
theorem good2 (d : Nat) (s : ByteArray) (h : atomOkM s = true) : goodM ⟨2, 0, s, []⟩ (d + 1) = true := by
  rw [goodM, goodML]
  unfold shapeM
  rw [if_neg (by decide), if_pos rfl, h]; rfl
theorem good45 (d : Nat) (t : Int) (ht : t = 4 ∨ t = 5) (l : List S30) (hl : l.length ≤ 20) (hg : ∀ y ∈ l, goodM y d = true) : goodM ⟨t, 0, ⟨#[]⟩, l⟩ (d + 1) = true := by
  rw [goodM, goodL_of l d hg]
  unfold shapeM
  rw [noText_nil]
  have e1 : decide ((l.length : Int) ≤ 20) = true := decide_eq_true (by omega)
  have e2 : decide ((l.length : Int) ≤ 60) = true := decide_eq_true (by omega)
  rcases ht with rfl | rfl
  · rw [if_neg (by decide), if_neg (by decide), if_neg (by decide), if_pos rfl, e1]; rfl
  · rw [if_neg (by decide), if_neg (by decide), if_neg (by decide), if_neg (by decide), if_pos rfl, e2]; rfl
theorem drawN_j1 (b : List Int) (d : Nat) (hd : d ≤ 3) (B : Nat) (hB : B ≤ 1000)
    (ih : 0 < d → ∀ i h, Cur b i → ∃ (x : S30) (i2 h2 : Int), Ev (fun k => spec_l2Draw.f k b i h ((d - 1 : Nat) : Int)) (x.f0, x.f1, x.f2, x.f3, i2, h2) ∧ Nice B d x ∧ Cur b i2)
    (v : Int) (q : Bool) (i h : Int) (hc : Cur b i) : ∃ (x : S30) (i2 h2 : Int), Ev (fun k => spec_l2Draw.j1 k d v q b i h) (x.f0, x.f1, x.f2, x.f3, i2, h2) ∧ Nice (3 * B + 4) (d + 1) x ∧ Cur b i2 := by
  cases q with
  | true =>
    obtain ⟨s, i2, h2, e, hs, c2⟩ := spec_l1Str_eq b i h [(⟨#[111, 107]⟩ : ByteArray), (⟨#[115, 116, 111, 112]⟩ : ByteArray), (⟨#[97]⟩ : ByteArray), (⟨#[116, 114, 117, 101]⟩ : ByteArray), (⟨#[97, 100, 100]⟩ : ByteArray)] (by decide) hc
    have hs2 : atomOkM s = true ∧ s.size ≤ 4 := by
      simp only [List.mem_cons, List.not_mem_nil, or_false] at hs
      rcases hs with rfl | rfl | rfl | rfl | rfl <;> exact ⟨by decide, by decide⟩
    refine ⟨⟨2, 0, s, []⟩, i2, h2, Ev.step (f := fun _ => some (2, 0, s, [], i2, h2)) (fun k => ?_) (Ev.now _), ⟨?_, good2 d s hs2.1⟩, c2⟩
    · simp only [spec_l2Draw.j1]; rw [if_pos trivial, e]; rfl
    · rw [budI, budIL]; omega
  | false =>
    by_cases h5 : v = 5
    · obtain ⟨n, i2, h2, e, n0, n1, _, c2⟩ := spec_l1Below_eq b i h 5 hc
      have n2 := n1 (by decide)
      refine ⟨⟨3, n, ⟨#[]⟩, []⟩, i2, h2, Ev.step (f := fun _ => some (3, n, ⟨#[]⟩, [], i2, h2)) (fun k => ?_) (Ev.now _), ⟨?_, good3 d n (by omega)⟩, c2⟩
      · simp only [spec_l2Draw.j1]; rw [if_neg (by decide), if_pos h5, e]; rfl
      · rw [budI, budIL]; exact Nat.zero_le _
    · obtain ⟨t, i2, h2, e, ht, c2⟩ := spec_l1Int_eq b i h [4, 5] (by decide) hc
      obtain ⟨n, i3, h3, e3, n0, n1, _, c3⟩ := spec_l1Below_eq b i2 h2 4 c2
      have n2 := n1 (by decide)
      have hm : n.toNat * (B + 1) ≤ 3 * (B + 1) := Nat.mul_le_mul_right _ (by omega)
      obtain ⟨l2, i4, h4, e4, ⟨hl2, hn2, hg2⟩, c4⟩ := drawN_l b d hd B ih t 0 ⟨#[]⟩ n.toNat [] i3 h3 (by omega) (by rw [budIL]; omega) (fun y hy => by cases hy) c3
      rw [show ((n.toNat : Nat) : Int) = n from by omega] at e4
      refine ⟨⟨t, 0, ⟨#[]⟩, l2⟩, i4, h4, Ev.step (f := fun k => spec_l2Draw.l0 k d n b i3 h3 t 0 ⟨#[]⟩ []) (fun k => ?_) e4, ⟨?_, good45 d t ?_ l2 ?_ hg2⟩, c4⟩
      · simp only [spec_l2Draw.j1]; rw [if_neg (by decide), if_neg h5, e]
        simp only [Option.bind_some]
        rw [e3]; rfl
      · rw [budI]
        rw [budIL] at hl2
        show 0 + budIL l2 ≤ _
        omega
      · simp only [List.mem_cons, List.not_mem_nil, or_false] at ht; exact ht
      · rw [List.length_nil] at hn2; omega
theorem drawN_j0 (b : List Int) (d : Nat) (hd : d ≤ 3) (B : Nat) (hB : B ≤ 1000)
    (ih : 0 < d → ∀ i h, Cur b i → ∃ (x : S30) (i2 h2 : Int), Ev (fun k => spec_l2Draw.f k b i h ((d - 1 : Nat) : Int)) (x.f0, x.f1, x.f2, x.f3, i2, h2) ∧ Nice B d x ∧ Cur b i2)
    (v : Int) (q : Bool) (i h : Int) (hc : Cur b i) : ∃ (x : S30) (i2 h2 : Int), Ev (fun k => spec_l2Draw.j0 k d v q b i h) (x.f0, x.f1, x.f2, x.f3, i2, h2) ∧ Nice (3 * B + 4) (d + 1) x ∧ Cur b i2 := by
  cases q with
  | true =>
    obtain ⟨w, i2, h2, e, w0, w1, _, c2⟩ := spec_l1Below_eq b i h 1000 hc
    have w2 := w1 (by decide)
    obtain ⟨n, i3, h3, e3, hn, c3⟩ := spec_l1Int_eq b i2 h2 [0, 1, 2, (-1), 7, 1000000000000, (-1000000000000), w] (by simp) c2
    refine ⟨⟨1, n, ⟨#[]⟩, []⟩, i3, h3, Ev.step (f := fun _ => some (1, n, ⟨#[]⟩, [], i3, h3)) (fun k => ?_) (Ev.now _), ⟨?_, good1 d n ?_⟩, c3⟩
    · simp only [spec_l2Draw.j0]; rw [if_pos trivial, e]
      simp only [Option.bind_some]
      rw [e3]; rfl
    · rw [budI, budIL]; exact Nat.zero_le _
    · simp only [List.mem_cons, List.not_mem_nil, or_false] at hn; omega
  | false =>
    obtain ⟨x, i2, h2, e, hx, c2⟩ := drawN_j1 b d hd B hB ih v (if v = 3 then v == 3 else v == 4) i h hc
    refine ⟨x, i2, h2, Ev.step (fun k => ?_) e, hx, c2⟩
    simp only [spec_l2Draw.j0]; rw [if_neg (by decide)]
    split <;> rfl
theorem drawN_step (b : List Int) (d : Nat) (hd : d ≤ 3) (B : Nat) (hB : B ≤ 1000)
    (ih : 0 < d → ∀ i h, Cur b i → ∃ (x : S30) (i2 h2 : Int), Ev (fun k => spec_l2Draw.f k b i h ((d - 1 : Nat) : Int)) (x.f0, x.f1, x.f2, x.f3, i2, h2) ∧ Nice B d x ∧ Cur b i2)
    (i h : Int) (hc : Cur b i) : ∃ (x : S30) (i2 h2 : Int), Ev (fun k => spec_l2Draw.f k b i h d) (x.f0, x.f1, x.f2, x.f3, i2, h2) ∧ Nice (3 * B + 4) (d + 1) x ∧ Cur b i2 := by
  obtain ⟨v, i2, h2, e, _, _, _, c2⟩ := spec_l1Below_eq b i h 8 hc
  obtain ⟨x, i3, h3, e3, hx, c3⟩ := drawN_j0 b d hd B hB ih v (if v = 0 then v == 0 else if v = 1 then v == 1 else v == 2) i2 h2 c2
  refine ⟨x, i3, h3, Ev.step (fun k => ?_) e3, hx, c3⟩
  simp only [spec_l2Draw.f]; rw [e]
  simp only [Option.bind_some]
  split
  · rfl
  · split <;> rfl
theorem drawN_all (b : List Int) (d : Nat) : d ≤ 3 → ∀ i h, Cur b i → ∃ (x : S30) (i2 h2 : Int), Ev (fun k => spec_l2Draw.f k b i h (d : Int)) (x.f0, x.f1, x.f2, x.f3, i2, h2) ∧ Nice (drawB d) (d + 1) x ∧ Cur b i2 := by
  induction d with
  | zero =>
    intro hd i h hc
    exact drawN_step b 0 hd 0 (by omega) (fun h0 => absurd h0 (by omega)) i h hc
  | succ d ih =>
    intro hd i h hc
    have := drawB_hi d (by omega)
    exact drawN_step b (d + 1) hd (drawB d) (by omega) (fun _ i h hc => ih (by omega) i h hc) i h hc
theorem spec_l1New_l (l : List Int) (hl : (l.length : Int) ≤ 1048576) (d : Nat) : ∀ (i : Nat) (h : Int), i + d = l.length → ∃ h2, Ev (fun k => spec_l1New.l0 k l h i) (l, 0, h2) := by
  induction d with
  | zero =>
    intro i h hi
    refine ⟨h, Ev.step (f := fun _ => some (l, 0, h)) (fun k => ?_) (Ev.now _)⟩
    simp only [spec_l1New.l0]; rw [if_neg (by omega)]
  | succ d ih =>
    intro i h hi
    by_cases h4 : (i : Int) < 4000
    · obtain ⟨h2, e⟩ := ih (i + 1) (Go.bits .and .i64 (wrap64 ((wrap64 ((wrap64 (h * 137)) + (wrap64 (rd l i)))) + 11)) 1073741823) (by omega)
      refine ⟨h2, Ev.step (fun k => ?_) e⟩
      simp only [spec_l1New.l0]; rw [if_pos (by omega), if_pos h4, if_pos (by omega), w64 ((i : Int) + 1) (by omega) (by omega)]
      rfl
    · refine ⟨h, Ev.step (f := fun _ => some (l, 0, h)) (fun k => ?_) (Ev.now _)⟩
      simp only [spec_l1New.l0]; rw [if_pos (by omega), if_neg h4]
theorem spec_l1New_ev (l : List Int) (hl : (l.length : Int) ≤ 1048576) : ∃ h, Ev (fun k => spec_l1New.f k l) (l, 0, h) := spec_l1New_l l hl l.length 0 _ (by omega)
theorem drawS_loop (b : List Int) (n : Nat) : ∀ (acc : List S30) (i h : Int), Cur b i → acc.length + n ≤ 19 → (∀ x ∈ acc, OkT x) → ∃ l, Ev (fun k => spec_DrawSortTerms.l0 k acc n b i h) l ∧ l.length ≤ 19 ∧ ∀ x ∈ l, OkT x := by
  induction n with
  | zero =>
    intro acc i h hc ha ho
    refine ⟨acc, Ev.step (f := fun _ => some acc) (fun k => ?_) (Ev.now _), by omega, ho⟩
    simp only [spec_DrawSortTerms.l0]; rw [if_neg (by omega)]
  | succ n ih =>
    intro acc i h hc ha ho
    obtain ⟨x, i2, h2, e, hx, c2⟩ := drawN_all b 1 (by omega) i h hc
    have hb := drawB_hi 1 (by omega)
    obtain ⟨l, e2, h3, h4⟩ := ih (acc ++ [x]) i2 h2 c2 (by rw [List.length_append]; simp; omega) (fun y hy => by
      rcases List.mem_append.1 hy with hy | hy
      · exact ho y hy
      · rw [List.mem_singleton] at hy
        subst hy
        exact ⟨by have := hx.1; omega, good_le y 2 hx.2 1⟩)
    refine ⟨l, Ev.step (f := fun k => (spec_l2Draw.f k b i h 1).bind fun bt178 => (if acc.length < 2513169434916 then (spec_DrawSortTerms.l0 k (acc ++ [(⟨bt178.1, bt178.2.1, bt178.2.2.1, bt178.2.2.2.1⟩ : S30)]) (wrap64 (((n + 1 : Nat) : Int) - 1)) b bt178.2.2.2.2.1 bt178.2.2.2.2.2) else (none))) (fun k => ?_) (Ev.bind e (ev_pos (by omega) ?_)), h3, h4⟩
    · simp only [spec_DrawSortTerms.l0]; rw [if_pos (by omega)]
    · rw [w64 _ (by omega) (by omega), show ((n + 1 : Nat) : Int) - 1 = (n : Int) from by omega]
      simp only [etaI]
      exact e2
theorem spec_DrawSortTerms_ev (b : List Int) (hb : (b.length : Int) ≤ 1048576) : ∃ l, Ev (fun k => spec_DrawSortTerms.f k b) l ∧ l.length ≤ 19 ∧ ∀ x ∈ l, OkT x := by
  obtain ⟨h, e0⟩ := spec_l1New_ev b hb
  obtain ⟨v, i2, h2, e1, v0, v1, _, c2⟩ := spec_l1Below_eq b 0 h 6 ⟨by omega, by omega, by omega⟩
  have v2 := v1 (by omega)
  obtain ⟨l, e2, h3, h4⟩ := drawS_loop b v.toNat [] i2 h2 c2 (by simp; omega) (fun x hx => by cases hx)
  rw [show ((v.toNat : Nat) : Int) = v from by omega] at e2
  unfold spec_DrawSortTerms.f
  exact ⟨l, Ev.bind e0 (Ev.bind (ev_of e1) e2), h3, h4⟩
mutual
theorem sameM_refl : ∀ x, sameM x x = true
  | ⟨a, b, s, l⟩ => by rw [sameM, sameML_refl l]; simp
theorem sameML_refl : ∀ l, sameML l l = true
  | [] => by rw [sameML]; rfl
  | x :: r => by rw [sameML, sameM_refl x, sameML_refl r]; rfl
end
theorem impl_Same_loop (l m : List S30) (hl : (budIL l : Int) ≤ 4194304) (hm : l.length = m.length)
    (h : ∀ y ∈ l, ∀ z, Ev (fun k => impl_SameTerm.f k y.f0 y.f1 y.f2 y.f3 z.f0 z.f1 z.f2 z.f3) (sameM y z)) (d : Nat) : ∀ (i : Nat), i + d = l.length → Ev (fun k => slices_EqualFunc_of_impl_SameTerm.l0 k m l (l.length : Int) i) (sameML (l.drop i) (m.drop i)) := by
  have hlen := budIL_len l
  induction d with
  | zero =>
    intro i hi
    refine Ev.step (f := fun _ => some true) (fun k => ?_) (ev_cast ?_ (Ev.now _))
    · simp only [slices_EqualFunc_of_impl_SameTerm.l0]; rw [if_neg (by omega)]
    · rw [List.drop_eq_nil_of_le (by omega), List.drop_eq_nil_of_le (by omega)]; rfl
  | succ d ih =>
    intro i hi
    have hlt : i < l.length := by omega
    have e := h _ (rdI_mem l i hlt) (rd_T30 m i)
    have hn := ih (i + 1) (by omega)
    rw [dropI l i hlt, dropI m i (by omega), sameML]
    generalize hy : rd_T30 l i = y at *
    generalize hz : rd_T30 m i = z at *
    refine Ev.step (f := fun k => (impl_SameTerm.f k y.f0 y.f1 y.f2 y.f3 z.f0 z.f1 z.f2 z.f3).bind fun t => (if t = true then (slices_EqualFunc_of_impl_SameTerm.l0 k m l (l.length : Int) (wrap64 ((i : Int) + 1))) else (some false))) (fun k => ?_) (Ev.bind e ?_)
    · simp only [slices_EqualFunc_of_impl_SameTerm.l0]; rw [if_pos (by omega), if_pos (by omega), if_pos (by omega), if_pos (by omega), hy, hz]
    · rw [w64 _ (by omega) (by omega)]
      cases hs : sameM y z with
      | true => exact ev_pos rfl hn
      | false => exact ev_neg (by decide) (Ev.now _)
theorem impl_EqualFunc_of (l m : List S30) (hl : (budIL l : Int) ≤ 4194304)
    (h : ∀ y ∈ l, ∀ z, Ev (fun k => impl_SameTerm.f k y.f0 y.f1 y.f2 y.f3 z.f0 z.f1 z.f2 z.f3) (sameM y z)) : Ev (fun k => slices_EqualFunc_of_impl_SameTerm.f k l m) (sameML l m) := by
  by_cases h4 : l.length = m.length
  · refine Ev.step (fun k => ?_) (impl_Same_loop l m hl h4 h l.length 0 (by omega))
    simp only [slices_EqualFunc_of_impl_SameTerm.f]; rw [if_pos (by omega)]; rfl
  · refine Ev.step (f := fun _ => some false) (fun k => ?_) (ev_cast ?_ (Ev.now _))
    · simp only [slices_EqualFunc_of_impl_SameTerm.f]; rw [if_neg (by omega)]
    · cases hs : sameML l m with
      | true => exact absurd (sameML_len l m hs) h4
      | false => rfl
theorem impl_Same_all : ∀ x, (budI x : Int) ≤ 4194304 → ∀ z, Ev (fun k => impl_SameTerm.f k x.f0 x.f1 x.f2 x.f3 z.f0 z.f1 z.f2 z.f3) (sameM x z) := by
  refine indI ?_
  intro a b s l ih hb z
  rw [budI] at hb
  obtain ⟨a2, b2, s2, m⟩ := z
  have e := impl_EqualFunc_of l m (by omega) (fun y hy z => ih y hy (by have := budI_mem l y hy; omega) z)
  rw [sameM]
  simp only []
  by_cases h1 : a = a2
  · by_cases h2 : b = b2
    · by_cases h3 : s.toList = s2.toList
      · refine Ev.step (f := fun k => (slices_EqualFunc_of_impl_SameTerm.f k l m).bind fun t => some t) (fun k => ?_) (Ev.bind e (ev_cast ?_ (Ev.now _)))
        · simp only [impl_SameTerm.f]; rw [if_pos h1, if_pos h2, if_pos h3]
        · simp [h1, h2, h3]
      · refine Ev.step (f := fun _ => some false) (fun k => ?_) (ev_cast ?_ (Ev.now _))
        · simp only [impl_SameTerm.f]; rw [if_pos h1, if_pos h2, if_neg h3]
        · simp [h3]
    · refine Ev.step (f := fun _ => some false) (fun k => ?_) (ev_cast ?_ (Ev.now _))
      · simp only [impl_SameTerm.f]; rw [if_pos h1, if_neg h2]
      · simp [h2]
  · refine Ev.step (f := fun _ => some false) (fun k => ?_) (ev_cast ?_ (Ev.now _))
    · simp only [impl_SameTerm.f]; rw [if_neg h1]
    · simp [h1]
theorem sameTs_loop (l : List S30) (hl : (l.length : Int) ≤ 4194304) (ho : ∀ x ∈ l, (budI x : Int) ≤ 4194304) (d : Nat) : ∀ i : Nat, i + d = l.length → Ev (fun k => laws_sameTerms.l0 k l l i) true := by
  induction d with
  | zero =>
    intro i hi
    refine Ev.step (f := fun _ => some true) (fun k => ?_) (Ev.now _)
    simp only [laws_sameTerms.l0]; rw [if_neg (by omega)]
  | succ d ih =>
    intro i hi
    have hlt : i < l.length := by omega
    have e := impl_Same_all l[i] (ho _ (List.getElem_mem hlt)) l[i]
    rw [sameM_refl] at e
    refine Ev.step (f := fun k => (impl_SameTerm.f k l[i].f0 l[i].f1 l[i].f2 l[i].f3 l[i].f0 l[i].f1 l[i].f2 l[i].f3).bind fun t => (if t = true then (laws_sameTerms.l0 k l l (wrap64 ((i : Int) + 1))) else (some false))) (fun k => ?_) (Ev.bind e (ev_pos rfl ?_))
    · simp only [laws_sameTerms.l0]
      rw [if_pos (by omega), if_pos (by omega), if_pos (by omega), rdIx2 l i hlt]
    · rw [w64 _ (by omega) (by omega)]
      exact ih (i + 1) (by omega)
theorem sameTs_ev (l : List S30) (hl : (l.length : Int) ≤ 4194304) (ho : ∀ x ∈ l, (budI x : Int) ≤ 4194304) : Ev (fun k => laws_sameTerms.f k l l) true := by
  unfold laws_sameTerms.f
  exact ev_pos rfl (sameTs_loop l hl ho l.length 0 (by omega))
def cntT (x : S30) (l : List S30) : Nat := l.countP (fun y => sameM y x)
theorem cntT_succ (x : S30) (l : List S30) (k : Nat) (h : k < l.length) : cntT x (l.take (k + 1)) = cntT x (l.take k) + (if sameM l[k] x = true then 1 else 0) := by
  unfold cntT
  rw [List.take_succ_eq_append_getElem h, List.countP_append, List.countP_singleton]
theorem cnt_loop (l s : List S30) (i : Nat) (hi : i < s.length) (hl : s.length = l.length) (hn : l.length ≤ 19) (hol : ∀ x ∈ l, OkT x) (hos : ∀ x ∈ s, OkT x)
    (fin : Ev (fun k => laws_FnSorted.l1 k l s i (cntT s[i] l : Nat) (cntT s[i] s : Nat) (l.length : Int)) true) (d : Nat) :
    ∀ k : Nat, k + d = l.length → Ev (fun n => laws_FnSorted.l1 n l s i (cntT s[i] (l.take k) : Nat) (cntT s[i] (s.take k) : Nat) (k : Int)) true := by
  induction d with
  | zero =>
    intro k hk
    have hk' : k = l.length := by omega
    subst hk'
    rw [List.take_of_length_le (Nat.le_refl _), List.take_of_length_le (by omega)]
    exact fin
  | succ d ih =>
    intro k hk
    have h1 : k < l.length := by omega
    have h2 : k < s.length := by omega
    have e1 := impl_Same_all l[k] (by have := (hol _ (List.getElem_mem h1)).1; omega) s[i]
    have e2 := impl_Same_all s[k] (by have := (hos _ (List.getElem_mem h2)).1; omega) s[i]
    have e3 := ih (k + 1) (by omega)
    rw [cntT_succ s[i] l k h1, cntT_succ s[i] s k h2] at e3
    have b1 : cntT s[i] (l.take k) ≤ 19 := Nat.le_trans List.countP_le_length (by rw [List.length_take]; omega)
    have b2 : cntT s[i] (s.take k) ≤ 19 := Nat.le_trans List.countP_le_length (by rw [List.length_take]; omega)
    generalize cntT s[i] (l.take k) = c1 at *
    generalize cntT s[i] (s.take k) = c2 at *
    refine Ev.step (f := fun n => laws_FnSorted.j6 n l s i (c1 : Int) (c2 : Int) (k : Int)) (fun n => ?_) (Ev.step (f := fun n => (impl_SameTerm.f n l[k].f0 l[k].f1 l[k].f2 l[k].f3 s[i].f0 s[i].f1 s[i].f2 s[i].f3).bind fun t259 => (if t259 = true then ((impl_SameTerm.f n s[k].f0 s[k].f1 s[k].f2 s[k].f3 s[i].f0 s[i].f1 s[i].f2 s[i].f3).bind fun t262 => (if t262 = true then (laws_FnSorted.l1 n l s i ((c1 : Int) + 1) ((c2 : Int) + 1) ((k : Int) + 1)) else (laws_FnSorted.l1 n l s i ((c1 : Int) + 1) (c2 : Int) ((k : Int) + 1)))) else ((impl_SameTerm.f n s[k].f0 s[k].f1 s[k].f2 s[k].f3 s[i].f0 s[i].f1 s[i].f2 s[i].f3).bind fun t265 => (if t265 = true then (laws_FnSorted.l1 n l s i (c1 : Int) ((c2 : Int) + 1) ((k : Int) + 1)) else (laws_FnSorted.l1 n l s i (c1 : Int) (c2 : Int) ((k : Int) + 1)))))) (fun n => ?_) ?_)
    · simp only [laws_FnSorted.l1]; rw [if_pos (by omega)]
    · simp only [laws_FnSorted.j6]
      rw [if_pos (by omega), if_pos (by omega), if_pos (by omega), if_pos (by omega), rdIx2 l k h1, rdIx2 s i hi, rdIx2 s k h2, if_pos (by omega), if_pos (by omega), w64 ((c1 : Int) + 1) (by omega) (by omega), w64 ((c2 : Int) + 1) (by omega) (by omega), w64 ((k : Int) + 1) (by omega) (by omega)]
    · refine Ev.bind e1 ?_
      by_cases q1 : sameM l[k] s[i] = true
      · rw [if_pos q1] at e3
        refine ev_pos q1 (Ev.bind e2 ?_)
        by_cases q2 : sameM s[k] s[i] = true
        · rw [if_pos q2] at e3; exact ev_pos q2 e3
        · rw [if_neg q2] at e3; exact ev_neg q2 e3
      · rw [if_neg q1] at e3
        refine ev_neg q1 (Ev.bind e2 ?_)
        by_cases q2 : sameM s[k] s[i] = true
        · rw [if_pos q2] at e3; exact ev_pos q2 e3
        · rw [if_neg q2] at e3; exact ev_neg q2 e3
theorem each_loop (l s : List S30) (hp : s.Perm l) (hs : SrtT s) (hn : l.length ≤ 19) (hol : ∀ x ∈ l, OkT x) (hos : ∀ x ∈ s, OkT x) (d : Nat) : ∀ i : Nat, i + d = s.length → Ev (fun k => laws_FnSorted.l0 k l s i) true := by
  have hl : s.length = l.length := hp.length_eq
  induction d with
  | zero =>
    intro i hi
    refine Ev.step (f := fun _ => some true) (fun k => ?_) (Ev.now _)
    simp only [laws_FnSorted.l0]; rw [if_neg (by omega)]
  | succ d ih =>
    intro i hi
    have h1 : i < s.length := by omega
    have hc : cntT s[i] l = cntT s[i] s := (hp.countP_eq _).symm
    have h0 : cntT s[i] l ≠ 0 := by
      rw [hc]
      unfold cntT
      intro h
      have := List.countP_eq_zero.1 h s[i] (List.getElem_mem h1)
      exact this (sameM_refl _)
    have nx : Ev (fun k => laws_FnSorted.l0 k l s (wrap64 ((i : Int) + 1))) true := by
      rw [w64 _ (by omega) (by omega)]
      exact ih (i + 1) (by omega)
    have fin : Ev (fun k => laws_FnSorted.l1 k l s i (cntT s[i] l : Nat) (cntT s[i] s : Nat) (l.length : Int)) true := by
      rw [hc]
      rw [hc] at h0
      generalize cntT s[i] s = c at *
      by_cases hz : i = 0
      · refine Ev.step (f := fun k => laws_FnSorted.l0 k l s (wrap64 ((i : Int) + 1))) (fun k => ?_) nx
        simp only [laws_FnSorted.l1]
        rw [if_neg (by omega), if_pos trivial, if_neg (by omega), if_neg (by omega)]
      · obtain ⟨j, rfl⟩ : ∃ j, i = j + 1 := ⟨i - 1, by omega⟩
        have hw : wrap64 (((j + 1 : Nat) : Int) - 1) = (j : Int) := by rw [w64 _ (by omega) (by omega)]; omega
        have e := impl_LessTerm_ev (Gt s (j + 1)) (Gt s j) (by have := (hos _ (Gt_mem s (j + 1) h1)).1; omega)
        refine Ev.step (f := fun k => (impl_LessTerm.f k (Gt s (j + 1)).f0 (Gt s (j + 1)).f1 (Gt s (j + 1)).f2 (Gt s (j + 1)).f3 (Gt s j).f0 (Gt s j).f1 (Gt s j).f2 (Gt s j).f3).bind fun t256 => (if t256 = true then (some false) else (laws_FnSorted.l0 k l s (wrap64 (((j + 1 : Nat) : Int) + 1))))) (fun k => ?_) (Ev.bind e (ev_neg (by rw [decide_eq_false (hs j (by omega))]; decide) nx))
        simp only [laws_FnSorted.l1]
        rw [hw, if_neg (by omega), if_pos trivial, if_neg (by omega), if_pos (by omega), if_pos (by omega), if_pos (by omega), if_pos (by omega), if_pos (by omega)]
        rfl
    have e := cnt_loop l s i h1 hl hn hol hos fin l.length 0 (by omega)
    rw [List.take_zero, List.take_zero] at e
    refine Ev.step (f := fun k => laws_FnSorted.j4 k l s i) (fun k => ?_) (Ev.step (f := fun k => laws_FnSorted.l1 k l s i 0 0 0) (fun k => ?_) e)
    · simp only [laws_FnSorted.l0]; rw [if_pos (by omega)]
    · simp only [laws_FnSorted.j4]
theorem FnSorted : laws_FnSorted.Pure := by
  intro l0 hl hl2 hw
  refine Ev.rounds (g := fun k => laws_FnSorted.f k l0) ?_
  unfold laws_FnSorted.f
  rw [laws_big_eq]
  by_cases hb : (l0.length : Int) > 1048576
  · refine Ev.bind (Ev.now _) (ev_pos (decide_eq_true hb) (Ev.now _))
  · refine Ev.bind (Ev.now _) (ev_neg (by simpa using hb) ?_)
    obtain ⟨l, ed, hn, ho⟩ := spec_DrawSortTerms_ev l0 (by omega)
    obtain ⟨s, es, hp, hs⟩ := sort_ev l (by omega) ho
    have hl1 := hp.length_eq
    have hos : ∀ x ∈ s, OkT x := fun x hx => ho x (hp.mem_iff.1 hx)
    have e2 := sort_same s (by omega) hos hs
    have e3 := sameTs_ev s (by omega) (fun x hx => by have := (hos x hx).1; omega)
    have e4 := each_loop l s hp hs hn ho hos s.length 0 (by omega)
    refine Ev.step (fun k => by simp only [laws_FnSorted.j0]; rfl) ?_
    refine Ev.bind ed (Ev.bind es (ev_pos (by omega) (Ev.bind e2 (Ev.bind e3 ?_))))
    refine Ev.step (f := fun k => laws_FnSorted.j2 k l s) (fun k => by simp only [laws_FnSorted.j1]; rw [if_neg (by decide)]) ?_
    exact Ev.step (f := fun k => laws_FnSorted.l0 k l s 0) (fun k => by simp only [laws_FnSorted.j2]) e4

end Go.Proofs.Ytkpompobnmdneaa.Pure
