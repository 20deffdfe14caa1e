/- What the law FnOrder of this seat says holds for every input that its row speaks of; no further condition. -/
import Derived.Test.YtjheomimogpifaaQFnOrderx9
import Derived.Lib.Strings
set_option linter.unusedVariables false
set_option linter.unusedSimpArgs false
namespace Go.Proofs.Ytjheomimogpifaa.Pure
open Go.RowKit Go.Proofs.Ytjheomimogpifaa.QFnOrder Go.Proofs.YtjheomimogpifaaW.PrintWords Go.Proofs.YtjheomimogpifaaW.PrintLast Go.Proofs.YtjheomimogpifaaW.PrintMore

theorem ev_pos {α : Type} {c : Prop} [Decidable c] {A B : Nat → Option α} {r : α} (h : c) (e : Ev A r) : Ev (fun k => if c then A k else B k) r := by
  obtain ⟨K, hK⟩ := e
  exact ⟨K, fun k hk => by simp only [if_pos h]; exact hK k hk⟩
theorem ev_neg {α : Type} {c : Prop} [Decidable c] {A B : Nat → Option α} {r : α} (h : ¬ c) (e : Ev B r) : Ev (fun k => if c then A k else B k) r := by
  obtain ⟨K, hK⟩ := e
  exact ⟨K, fun k hk => by simp only [if_neg h]; exact hK k hk⟩
theorem ev_of {α : Type} {o : Option α} {r : α} (h : o = some r) : Ev (fun _ => o) r := ⟨0, fun _ _ => h⟩
theorem ev_cast {α : Type} {g : Nat → Option α} {r r' : α} (h : r = r') (e : Ev g r) : Ev g r' := h ▸ e
theorem w64 (n : Int) (h0 : -9223372036854775808 ≤ n) (h1 : n ≤ 9223372036854775807) : wrap64 n = n := by unfold wrap64; omega
theorem laws_big_eq (l : List Int) : laws_big.f l = some (decide ((l.length : Int) > 1048576)) := rfl
theorem indI {P : S26 → Prop} (h : ∀ a b s l, (∀ y ∈ l, P y) → P ⟨a, b, s, l⟩) : ∀ x, P x := by
  intro x
  refine S26.rec (motive_1 := P) (motive_2 := fun l => ∀ y ∈ l, P y) ?_ ?_ ?_ x
  · intro a b s l hl
    exact h a b s l hl
  · intro y hy; cases hy
  · intro x r hx hr y hy
    rcases List.mem_cons.1 hy with rfl | hy
    · exact hx
    · exact hr y hy
mutual
def budI : S26 → Nat
  | ⟨_, _, s, l⟩ => s.size + budIL l
def budIL : List S26 → Nat
  | [] => 0
  | x :: r => 1 + budI x + budIL r
end
theorem budI_mk (a b : Int) (s : ByteArray) (l : List S26) : budI ⟨a, b, s, l⟩ = s.size + budIL l := by rw [budI]
theorem budIL_len : ∀ l : List S26, l.length ≤ budIL l
  | [] => by simp [budIL]
  | x :: r => by
    have := budIL_len r
    rw [budIL, List.length_cons]; omega
theorem rdI_mem (l : List S26) (i : Nat) (h : i < l.length) : rd_T26 l i ∈ l := by
  unfold rd_T26
  simp [List.getD_eq_getElem?_getD, List.getElem?_eq_getElem h]
theorem dropI (l : List S26) (i : Nat) (h : i < l.length) : l.drop i = rd_T26 l i :: l.drop (i + 1) := by
  rw [List.drop_eq_getElem_cons h]
  unfold rd_T26
  simp [List.getElem?_eq_getElem h]
theorem budI_mem : ∀ (l : List S26) (x : S26), x ∈ l → budI x + 1 ≤ budIL l
  | [], x, h => by cases h
  | y :: r, x, h => by
    rw [budIL]
    rcases List.mem_cons.1 h with rfl | h
    · omega
    · have := budI_mem r x h; omega
theorem etaI (x : S26) : (⟨x.f0, x.f1, x.f2, x.f3⟩ : S26) = x := by cases x; rfl
theorem hk63 (n : Int) (h0 : 0 ≤ n) (h1 : n < 2 ^ 63) : IntKind.i64.wrap n = n := by
  rw [IntKind.wrap_i64]; omega
def Cur (b : List Int) (i : Int) : Prop := 0 ≤ i ∧ i ≤ b.length ∧ (b.length : Int) ≤ 1048576
theorem and255 (x : Int) : 0 ≤ Go.bits .and .i64 x 255 ∧ Go.bits .and .i64 x 255 ≤ 255 := by
  have h : Go.bits .and .i64 x 255 = IntKind.i64.wrap (((BitVec.ofInt 64 x) &&& (BitVec.ofInt 64 255)).toNat : Int) := rfl
  have h2 : ((BitVec.ofInt 64 x) &&& (BitVec.ofInt 64 255)).toNat ≤ 255 := by
    rw [BitVec.toNat_and]
    exact Nat.and_le_right
  rw [h, hk63 _ (by omega) (by omega)]
  omega
theorem spec_l1Byte_eq (b : List Int) (i h : Int) (hc : Cur b i) : ∃ v i2 h2, spec_l1Byte.f b i h = some (v, i2, h2) ∧ 0 ≤ v ∧ v ≤ 255 ∧ Cur b i2 := by
  unfold spec_l1Byte.f
  obtain ⟨h0, h1, h2⟩ := hc
  by_cases hi : i < (b.length : Int)
  · rw [if_pos hi, if_pos h0, w64 (i + 1) (by omega) (by omega)]
    exact ⟨_, _, _, rfl, (and255 _).1, (and255 _).2, by omega, by omega, h2⟩
  · rw [if_neg hi]
    exact ⟨_, _, _, rfl, (and255 _).1, (and255 _).2, h0, h1, h2⟩
theorem spec_l1Below_eq (b : List Int) (i h n : Int) (hc : Cur b i) : ∃ v i2 h2, spec_l1Below.f b i h n = some (v, i2, h2) ∧ 0 ≤ v ∧ (0 < n → v < n) ∧ (n ≤ 0 → v = 0) ∧ Cur b i2 := by
  unfold spec_l1Below.f
  by_cases h0 : n ≤ 0
  · rw [if_pos h0]
    exact ⟨0, i, h, rfl, by omega, by omega, fun _ => rfl, hc⟩
  rw [if_neg h0]
  by_cases h1 : n ≤ 256
  · rw [if_pos h1]
    obtain ⟨v, i2, h2, e, v0, v1, c2⟩ := spec_l1Byte_eq b i h hc
    rw [e]
    simp only [Option.bind_some]
    rw [if_neg (by omega)]
    refine ⟨_, _, _, rfl, ?_, fun _ => ?_, by omega, c2⟩
    · rw [Int.tmod_eq_emod_of_nonneg v0]; exact Int.emod_nonneg _ (by omega)
    · rw [Int.tmod_eq_emod_of_nonneg v0]; exact Int.emod_lt_of_pos _ (by omega)
  · rw [if_neg h1]
    obtain ⟨x, i2, h2, e, x0, x1, c2⟩ := spec_l1Byte_eq b i h hc
    rw [e]
    simp only [Option.bind_some]
    obtain ⟨y, i3, h3, e3, y0, y1, c3⟩ := spec_l1Byte_eq b i2 h2 c2
    rw [e3]
    simp only [Option.bind_some]
    obtain ⟨z, i4, h4, e4, z0, z1, c4⟩ := spec_l1Byte_eq b i3 h3 c3
    rw [e4]
    simp only [Option.bind_some]
    rw [if_neg (by omega), w64 (x * 65536) (by omega) (by omega), w64 (y * 256) (by omega) (by omega), w64 (x * 65536 + y * 256) (by omega) (by omega), w64 (x * 65536 + y * 256 + z) (by omega) (by omega)]
    refine ⟨_, _, _, rfl, ?_, fun _ => ?_, by omega, c4⟩
    · rw [Int.tmod_eq_emod_of_nonneg (by omega)]; exact Int.emod_nonneg _ (by omega)
    · rw [Int.tmod_eq_emod_of_nonneg (by omega)]; exact Int.emod_lt_of_pos _ (by omega)
theorem spec_l1Int_eq (b : List Int) (i h : Int) (l : List Int) (hl : 0 < l.length) (hc : Cur b i) : ∃ v i2 h2, spec_l1Int.f b i h l = some (v, i2, h2) ∧ v ∈ l ∧ Cur b i2 := by
  unfold spec_l1Int.f
  obtain ⟨v, i2, h2, e, v0, v1, _, c2⟩ := spec_l1Below_eq b i h l.length hc
  rw [e]
  simp only [Option.bind_some]
  have v2 := v1 (by omega)
  rw [if_pos v0, if_pos v2]
  refine ⟨_, _, _, rfl, ?_, c2⟩
  unfold rd
  have hv : v.toNat < l.length := by omega
  simp [List.getD_eq_getElem?_getD, List.getElem?_eq_getElem hv]
theorem spec_l1Str_eq (b : List Int) (i h : Int) (l : List ByteArray) (hl : 0 < l.length) (hc : Cur b i) : ∃ v i2 h2, spec_l1Str.f b i h l = some (v, i2, h2) ∧ v ∈ l ∧ Cur b i2 := by
  unfold spec_l1Str.f
  obtain ⟨v, i2, h2, e, v0, v1, _, c2⟩ := spec_l1Below_eq b i h l.length hc
  rw [e]
  simp only [Option.bind_some]
  have v2 := v1 (by omega)
  rw [if_pos v0, if_pos v2]
  refine ⟨_, _, _, rfl, ?_, c2⟩
  unfold rdOf
  have hv : v.toNat < l.length := by omega
  simp [List.getD_eq_getElem?_getD, List.getElem?_eq_getElem hv]
theorem budIL_app : ∀ (l m : List S26), budIL (l ++ m) = budIL l + budIL m
  | [], m => by rw [List.nil_append, budIL]; omega
  | x :: r, m => by rw [List.cons_append, budIL, budIL, budIL_app r m]; omega
theorem budIL_one (x : S26) : budIL [x] = 1 + budI x := by rw [budIL, budIL]; rfl
theorem take_rdI (l : List S26) (i : Nat) (h : i < l.length) : l.take i ++ [rd_T26 l i] = l.take (i + 1) := by
  rw [List.take_add_one]
  unfold rd_T26
  simp [List.getElem?_eq_getElem h]
def lowB (c : Int) : Bool := decide (97 ≤ c) && decide (c ≤ 122)
def digB (c : Int) : Bool := decide (48 ≤ c) && decide (c ≤ 57)
def atomFrom (s : ByteArray) (i : Nat) : Bool := (List.range' i (s.size - i)).all fun j => lowB (bt s j) || (!decide (j = 0) && (digB (bt s j) || decide (bt s j = 95)))
def atomOkM (s : ByteArray) : Bool := atomFrom s 0 && (decide (1 ≤ (s.size : Int)) && decide ((s.size : Int) ≤ 20))
def noText (s : ByteArray) : Bool := decide (s.toList = ([] : List UInt8))
def shapeM (a b : Int) (s : ByteArray) (l : List S26) : Bool :=
  if a = 1 then (decide (-1000000000000 ≤ b) && decide (b ≤ 1000000000000)) && (noText s && ((l.length : Int) == 0))
  else if a = 2 then atomOkM s && (decide (b = 0) && ((l.length : Int) == 0))
  else if a = 3 then (decide (0 ≤ b) && decide (b ≤ 1000000)) && (noText s && ((l.length : Int) == 0))
  else if a = 4 then decide (b = 0) && (noText s && decide ((l.length : Int) ≤ 20))
  else if a = 5 then decide (b = 0) && (noText s && decide ((l.length : Int) ≤ 60))
  else false
mutual
def goodM : S26 → Nat → Bool
  | ⟨a, b, s, l⟩, n => match n with
    | 0 => false
    | n + 1 => shapeM a b s l && goodML l n
def goodML : List S26 → Nat → Bool
  | [], _ => true
  | x :: r, n => goodM x n && goodML r n
end
theorem good_mk {a b : Int} {s : ByteArray} {l : List S26} {n : Nat} (h : goodM ⟨a, b, s, l⟩ n = true) : ∃ m, n = m + 1 ∧ shapeM a b s l = true ∧ goodML l m = true := by
  cases n with
  | zero => rw [goodM] at h; cases h
  | succ m =>
    rw [goodM, Bool.and_eq_true] at h
    exact ⟨m, rfl, h.1, h.2⟩
theorem goodL_mem : ∀ (l : List S26) (n : Nat), goodML l n = true → ∀ y ∈ l, goodM y n = true
  | [], _, _, y, hy => by cases hy
  | x :: r, n, h, y, hy => by
    rw [goodML, Bool.and_eq_true] at h
    rcases List.mem_cons.1 hy with rfl | hy
    · exact h.1
    · exact goodL_mem r n h.2 y hy
theorem noText_eq {s : ByteArray} (h : noText s = true) : s = ⟨#[]⟩ := by
  unfold noText at h
  rw [decide_eq_true_eq, Go.Lib.toList_data] at h
  apply ByteArray.ext
  exact Array.toList_inj.1 h
theorem len0_eq {l : List S26} (h : ((l.length : Int) == 0) = true) : l = [] := by
  rw [beq_iff_eq] at h
  exact List.eq_nil_of_length_eq_zero (by omega)
/-- What a right term of a kind is. -/
theorem shape_cases {a b : Int} {s : ByteArray} {l : List S26} (h : shapeM a b s l = true) :
    (a = 1 ∧ -1000000000000 ≤ b ∧ b ≤ 1000000000000 ∧ s = ⟨#[]⟩ ∧ l = []) ∨ (a = 2 ∧ b = 0 ∧ atomOkM s = true ∧ l = []) ∨ (a = 3 ∧ 0 ≤ b ∧ b ≤ 1000000 ∧ s = ⟨#[]⟩ ∧ l = []) ∨ ((a = 4 ∨ a = 5) ∧ b = 0 ∧ s = ⟨#[]⟩ ∧ l.length ≤ 60) := by
  unfold shapeM at h
  by_cases h1 : a = 1
  · rw [if_pos h1] at h
    simp only [Bool.and_eq_true, decide_eq_true_eq] at h
    exact .inl ⟨h1, h.1.1, h.1.2, noText_eq h.2.1, len0_eq h.2.2⟩
  rw [if_neg h1] at h
  by_cases h2 : a = 2
  · rw [if_pos h2] at h
    simp only [Bool.and_eq_true, decide_eq_true_eq] at h
    exact .inr (.inl ⟨h2, h.2.1, h.1, len0_eq h.2.2⟩)
  rw [if_neg h2] at h
  by_cases h3 : a = 3
  · rw [if_pos h3] at h
    simp only [Bool.and_eq_true, decide_eq_true_eq] at h
    exact .inr (.inr (.inl ⟨h3, h.1.1, h.1.2, noText_eq h.2.1, len0_eq h.2.2⟩))
  rw [if_neg h3] at h
  by_cases h4 : a = 4
  · rw [if_pos h4] at h
    simp only [Bool.and_eq_true, decide_eq_true_eq] at h
    exact .inr (.inr (.inr ⟨.inl h4, h.1, noText_eq h.2.1, by omega⟩))
  rw [if_neg h4] at h
  by_cases h5 : a = 5
  · rw [if_pos h5] at h
    simp only [Bool.and_eq_true, decide_eq_true_eq] at h
    exact .inr (.inr (.inr ⟨.inr h5, h.1, noText_eq h.2.1, by omega⟩))
  rw [if_neg h5] at h
  cases h
theorem goodL_of : ∀ (l : List S26) (n : Nat), (∀ y ∈ l, goodM y n = true) → goodML l n = true
  | [], n, _ => by rw [goodML]
  | x :: r, n, h => by
    rw [goodML, h x List.mem_cons_self, goodL_of r n (fun y hy => h y (List.mem_cons_of_mem _ hy))]; rfl
/-- A term as the drawing makes them. -/
def Nice (B n : Nat) (x : S26) : Prop := budI x ≤ B ∧ goodM x n = true
theorem drawN_l (b : List Int) (d : Nat) (hd : d ≤ 3) (B : Nat)
    (ih : 0 < d → ∀ i h, Cur b i → ∃ (x : S26) (i2 h2 : Int), Ev (fun k => spec_l2Draw.f k b i h ((d - 1 : Nat) : Int)) (x.f0, x.f1, x.f2, x.f3, i2, h2) ∧ Nice B d x ∧ Cur b i2) (t0 t1 : Int) (s : ByteArray) :
    ∀ (n : Nat) (l : List S26) (i h : Int), n ≤ 3 → budIL l + n * (B + 1) ≤ 60000 → (∀ y ∈ l, goodM y d = true) → Cur b i → ∃ l2 i2 h2, Ev (fun k => spec_l2Draw.l0 k d n b i h t0 t1 s l) (t0, t1, s, l2, i2, h2) ∧ (budIL l2 ≤ budIL l + n * (B + 1) ∧ l2.length ≤ l.length + n ∧ ∀ y ∈ l2, goodM y d = true) ∧ Cur b i2 := by
  intro n
  induction n with
  | zero =>
    intro l i h hn hl hg hc
    refine ⟨l, i, h, Ev.step (f := fun _ => some (t0, t1, s, l, i, h)) (fun k => ?_) (Ev.now _), ⟨by omega, by omega, hg⟩, hc⟩
    simp only [spec_l2Draw.l0]; rw [if_neg (by omega)]
  | succ n ihn =>
    intro l i h hn hl hg hc
    rw [Nat.succ_mul] at hl
    by_cases h0 : (d : Int) > 0
    · obtain ⟨x, i2, h2, e, ⟨hx, hxg⟩, c2⟩ := ih (by omega) i h hc
      have hlen := budIL_len l
      have ha := budIL_app l [x]
      rw [budIL_one] at ha
      obtain ⟨l3, i3, h3, e3, ⟨hl3, hn3, hg3⟩, c3⟩ := ihn (l ++ [x]) i2 h2 (by omega) (by omega) (fun y hy => by
        rcases List.mem_append.1 hy with hy | hy
        · exact hg y hy
        · rw [List.mem_singleton] at hy; rw [hy]; exact hxg) c2
      refine ⟨l3, i3, h3, Ev.step (f := fun k => (spec_l2Draw.f k b i h ((d - 1 : Nat) : Int)).bind fun bt => (if l.length < 2513169434916 then (spec_l2Draw.l0 k d (wrap64 (((n + 1 : Nat) : Int) - 1)) b bt.2.2.2.2.1 bt.2.2.2.2.2 t0 t1 s (l ++ [(⟨bt.1, bt.2.1, bt.2.2.1, bt.2.2.2.1⟩ : S26)])) else none)) (fun k => ?_) (Ev.bind e (ev_pos (by omega) ?_)), ⟨?_, ?_, hg3⟩, c3⟩
      · simp only [spec_l2Draw.l0]; rw [if_pos (by omega), if_pos h0, w64 ((d : Int) - 1) (by omega) (by omega), show (d : Int) - 1 = ((d - 1 : Nat) : Int) from by omega]
      · rw [w64 _ (by omega) (by omega), show ((n + 1 : Nat) : Int) - 1 = (n : Int) from by omega]
        simp only [etaI]
        exact e3
      · rw [Nat.succ_mul]; omega
      · rw [List.length_append, List.length_singleton] at hn3; omega
    · refine ⟨l, i, h, Ev.step (f := fun _ => some (t0, t1, s, l, i, h)) (fun k => ?_) (Ev.now _), ⟨by omega, by omega, hg⟩, hc⟩
      simp only [spec_l2Draw.l0]; rw [if_pos (by omega), if_neg h0]
def drawB : Nat → Nat
  | 0 => 4
  | d + 1 => 3 * drawB d + 4
theorem drawB_hi (d : Nat) (h : d ≤ 3) : drawB d ≤ 160 := by
  have : d = 0 ∨ d = 1 ∨ d = 2 ∨ d = 3 := by omega
  rcases this with rfl | rfl | rfl | rfl <;> decide
theorem noText_nil : noText ⟨#[]⟩ = true := by unfold noText; rw [Go.Lib.toList_data]; rfl
theorem good1 (d : Nat) (n : Int) (h : -1000000000000 ≤ n ∧ n ≤ 1000000000000) : goodM ⟨1, n, ⟨#[]⟩, []⟩ (d + 1) = true := by
  rw [goodM, goodML]
  unfold shapeM
  rw [noText_nil]
  rw [if_pos rfl, decide_eq_true h.1, decide_eq_true h.2]; rfl
theorem good3 (d : Nat) (n : Int) (h : 0 ≤ n ∧ n ≤ 1000000) : goodM ⟨3, n, ⟨#[]⟩, []⟩ (d + 1) = true := by
  rw [goodM, goodML]
  unfold shapeM
  rw [noText_nil]
  rw [if_neg (by decide), if_neg (by decide), if_pos rfl, decide_eq_true h.1, decide_eq_true h.2]; rfl
theorem good2 (d : Nat) (s : ByteArray) (h : atomOkM s = true) : goodM ⟨2, 0, s, []⟩ (d + 1) = true := by
  rw [goodM, goodML]
  unfold shapeM
  rw [if_neg (by decide), if_pos rfl, h]; rfl
theorem good45 (d : Nat) (t : Int) (ht : t = 4 ∨ t = 5) (l : List S26) (hl : l.length ≤ 20) (hg : ∀ y ∈ l, goodM y d = true) : goodM ⟨t, 0, ⟨#[]⟩, l⟩ (d + 1) = true := by
  rw [goodM, goodL_of l d hg]
  unfold shapeM
  rw [noText_nil]
  have e1 : decide ((l.length : Int) ≤ 20) = true := decide_eq_true (by omega)
  have e2 : decide ((l.length : Int) ≤ 60) = true := decide_eq_true (by omega)
  rcases ht with rfl | rfl
  · rw [if_neg (by decide), if_neg (by decide), if_neg (by decide), if_pos rfl, e1]; rfl
  · rw [if_neg (by decide), if_neg (by decide), if_neg (by decide), if_neg (by decide), if_pos rfl, e2]; rfl
theorem drawN_j1 (b : List Int) (d : Nat) (hd : d ≤ 3) (B : Nat) (hB : B ≤ 1000)
    (ih : 0 < d → ∀ i h, Cur b i → ∃ (x : S26) (i2 h2 : Int), Ev (fun k => spec_l2Draw.f k b i h ((d - 1 : Nat) : Int)) (x.f0, x.f1, x.f2, x.f3, i2, h2) ∧ Nice B d x ∧ Cur b i2)
    (v : Int) (q : Bool) (i h : Int) (hc : Cur b i) : ∃ (x : S26) (i2 h2 : Int), Ev (fun k => spec_l2Draw.j1 k d v q b i h) (x.f0, x.f1, x.f2, x.f3, i2, h2) ∧ Nice (3 * B + 4) (d + 1) x ∧ Cur b i2 := by
  cases q with
  | true =>
    obtain ⟨s, i2, h2, e, hs, c2⟩ := spec_l1Str_eq b i h [(⟨#[111, 107]⟩ : ByteArray), (⟨#[115, 116, 111, 112]⟩ : ByteArray), (⟨#[97]⟩ : ByteArray), (⟨#[116, 114, 117, 101]⟩ : ByteArray), (⟨#[97, 100, 100]⟩ : ByteArray)] (by decide) hc
    have hs2 : atomOkM s = true ∧ s.size ≤ 4 := by
      simp only [List.mem_cons, List.not_mem_nil, or_false] at hs
      rcases hs with rfl | rfl | rfl | rfl | rfl <;> exact ⟨by decide, by decide⟩
    refine ⟨⟨2, 0, s, []⟩, i2, h2, Ev.step (f := fun _ => some (2, 0, s, [], i2, h2)) (fun k => ?_) (Ev.now _), ⟨?_, good2 d s hs2.1⟩, c2⟩
    · simp only [spec_l2Draw.j1]; rw [if_pos trivial, e]; rfl
    · rw [budI, budIL]; omega
  | false =>
    by_cases h5 : v = 5
    · obtain ⟨n, i2, h2, e, n0, n1, _, c2⟩ := spec_l1Below_eq b i h 5 hc
      have n2 := n1 (by decide)
      refine ⟨⟨3, n, ⟨#[]⟩, []⟩, i2, h2, Ev.step (f := fun _ => some (3, n, ⟨#[]⟩, [], i2, h2)) (fun k => ?_) (Ev.now _), ⟨?_, good3 d n (by omega)⟩, c2⟩
      · simp only [spec_l2Draw.j1]; rw [if_neg (by decide), if_pos h5, e]; rfl
      · rw [budI, budIL]; exact Nat.zero_le _
    · obtain ⟨t, i2, h2, e, ht, c2⟩ := spec_l1Int_eq b i h [4, 5] (by decide) hc
      obtain ⟨n, i3, h3, e3, n0, n1, _, c3⟩ := spec_l1Below_eq b i2 h2 4 c2
      have n2 := n1 (by decide)
      have hm : n.toNat * (B + 1) ≤ 3 * (B + 1) := Nat.mul_le_mul_right _ (by omega)
      obtain ⟨l2, i4, h4, e4, ⟨hl2, hn2, hg2⟩, c4⟩ := drawN_l b d hd B ih t 0 ⟨#[]⟩ n.toNat [] i3 h3 (by omega) (by rw [budIL]; omega) (fun y hy => by cases hy) c3
      rw [show ((n.toNat : Nat) : Int) = n from by omega] at e4
      refine ⟨⟨t, 0, ⟨#[]⟩, l2⟩, i4, h4, Ev.step (f := fun k => spec_l2Draw.l0 k d n b i3 h3 t 0 ⟨#[]⟩ []) (fun k => ?_) e4, ⟨?_, good45 d t ?_ l2 ?_ hg2⟩, c4⟩
      · simp only [spec_l2Draw.j1]; rw [if_neg (by decide), if_neg h5, e]
        simp only [Option.bind_some]
        rw [e3]; rfl
      · rw [budI]
        rw [budIL] at hl2
        show 0 + budIL l2 ≤ _
        omega
      · simp only [List.mem_cons, List.not_mem_nil, or_false] at ht; exact ht
      · rw [List.length_nil] at hn2; omega
theorem drawN_j0 (b : List Int) (d : Nat) (hd : d ≤ 3) (B : Nat) (hB : B ≤ 1000)
    (ih : 0 < d → ∀ i h, Cur b i → ∃ (x : S26) (i2 h2 : Int), Ev (fun k => spec_l2Draw.f k b i h ((d - 1 : Nat) : Int)) (x.f0, x.f1, x.f2, x.f3, i2, h2) ∧ Nice B d x ∧ Cur b i2)
    (v : Int) (q : Bool) (i h : Int) (hc : Cur b i) : ∃ (x : S26) (i2 h2 : Int), Ev (fun k => spec_l2Draw.j0 k d v q b i h) (x.f0, x.f1, x.f2, x.f3, i2, h2) ∧ Nice (3 * B + 4) (d + 1) x ∧ Cur b i2 := by
  cases q with
  | true =>
    obtain ⟨w, i2, h2, e, w0, w1, _, c2⟩ := spec_l1Below_eq b i h 1000 hc
    have w2 := w1 (by decide)
    obtain ⟨n, i3, h3, e3, hn, c3⟩ := spec_l1Int_eq b i2 h2 [0, 1, 2, (-1), 7, 1000000000000, (-1000000000000), w] (by simp) c2
    refine ⟨⟨1, n, ⟨#[]⟩, []⟩, i3, h3, Ev.step (f := fun _ => some (1, n, ⟨#[]⟩, [], i3, h3)) (fun k => ?_) (Ev.now _), ⟨?_, good1 d n ?_⟩, c3⟩
    · simp only [spec_l2Draw.j0]; rw [if_pos trivial, e]
      simp only [Option.bind_some]
      rw [e3]; rfl
    · rw [budI, budIL]; exact Nat.zero_le _
    · simp only [List.mem_cons, List.not_mem_nil, or_false] at hn; omega
  | false =>
    obtain ⟨x, i2, h2, e, hx, c2⟩ := drawN_j1 b d hd B hB ih v (if v = 3 then v == 3 else v == 4) i h hc
    refine ⟨x, i2, h2, Ev.step (fun k => ?_) e, hx, c2⟩
    simp only [spec_l2Draw.j0]; rw [if_neg (by decide)]
    split <;> rfl
theorem drawN_step (b : List Int) (d : Nat) (hd : d ≤ 3) (B : Nat) (hB : B ≤ 1000)
    (ih : 0 < d → ∀ i h, Cur b i → ∃ (x : S26) (i2 h2 : Int), Ev (fun k => spec_l2Draw.f k b i h ((d - 1 : Nat) : Int)) (x.f0, x.f1, x.f2, x.f3, i2, h2) ∧ Nice B d x ∧ Cur b i2)
    (i h : Int) (hc : Cur b i) : ∃ (x : S26) (i2 h2 : Int), Ev (fun k => spec_l2Draw.f k b i h d) (x.f0, x.f1, x.f2, x.f3, i2, h2) ∧ Nice (3 * B + 4) (d + 1) x ∧ Cur b i2 := by
  obtain ⟨v, i2, h2, e, _, _, _, c2⟩ := spec_l1Below_eq b i h 8 hc
  obtain ⟨x, i3, h3, e3, hx, c3⟩ := drawN_j0 b d hd B hB ih v (if v = 0 then v == 0 else if v = 1 then v == 1 else v == 2) i2 h2 c2
  refine ⟨x, i3, h3, Ev.step (fun k => ?_) e3, hx, c3⟩
  simp only [spec_l2Draw.f]; rw [e]
  simp only [Option.bind_some]
  split
  · rfl
  · split <;> rfl
theorem drawN_all (b : List Int) (d : Nat) : d ≤ 3 → ∀ i h, Cur b i → ∃ (x : S26) (i2 h2 : Int), Ev (fun k => spec_l2Draw.f k b i h (d : Int)) (x.f0, x.f1, x.f2, x.f3, i2, h2) ∧ Nice (drawB d) (d + 1) x ∧ Cur b i2 := by
  induction d with
  | zero =>
    intro hd i h hc
    exact drawN_step b 0 hd 0 (by omega) (fun h0 => absurd h0 (by omega)) i h hc
  | succ d ih =>
    intro hd i h hc
    have := drawB_hi d (by omega)
    exact drawN_step b (d + 1) hd (drawB d) (by omega) (fun _ i h hc => ih (by omega) i h hc) i h hc
theorem spec_l2Copy_l (a b : Int) (s : ByteArray) (l : List S26) (hl : (budIL l : Int) ≤ 4194304)
    (h : ∀ y ∈ l, Ev (fun k => spec_l2Copy.f k y.f0 y.f1 y.f2 y.f3) (y.f0, y.f1, y.f2, y.f3)) (d : Nat) : ∀ (i : Nat), i + d = l.length → Ev (fun k => spec_l2Copy.l0 k i a b s l a b s (l.take i)) (a, b, s, l) := by
  have hlen := budIL_len l
  induction d with
  | zero =>
    intro i hi
    refine Ev.step (f := fun _ => some (a, b, s, l)) (fun k => ?_) (Ev.now _)
    simp only [spec_l2Copy.l0]; rw [if_neg (by omega), List.take_of_length_le (by omega)]
  | succ d ih =>
    intro i hi
    have hlt : i < l.length := by omega
    have e := h _ (rdI_mem l i hlt)
    have ht := take_rdI l i hlt
    generalize hy : rd_T26 l i = y at *
    refine Ev.step (f := fun k => (spec_l2Copy.f k y.f0 y.f1 y.f2 y.f3).bind fun bt => (if (l.take i).length < 2513169434916 then (spec_l2Copy.l0 k (wrap64 ((i : Int) + 1)) a b s l a b s (l.take i ++ [(⟨bt.1, bt.2.1, bt.2.2.1, bt.2.2.2⟩ : S26)])) else none)) (fun k => ?_) (Ev.bind e (ev_pos (by rw [List.length_take]; omega) ?_))
    · simp only [spec_l2Copy.l0]; rw [if_pos (by omega), if_pos (by omega), hy]
    · rw [w64 _ (by omega) (by omega)]
      refine ev_cast rfl ?_
      have := ih (i + 1) (by omega)
      rw [← ht] at this
      simp only [etaI]
      exact this
theorem spec_l2Copy_all : ∀ x, (budI x : Int) ≤ 4194304 → Ev (fun k => spec_l2Copy.f k x.f0 x.f1 x.f2 x.f3) (x.f0, x.f1, x.f2, x.f3) := by
  refine indI ?_
  intro a b s l ih hb
  rw [budI] at hb
  refine Ev.step (fun k => ?_) (spec_l2Copy_l a b s l (by omega) (fun y hy => ih y hy (by have := budI_mem l y hy; omega)) l.length 0 (by omega))
  simp only [spec_l2Copy.f]; rfl
theorem spec_l1Once_eq (b : List Int) (i h n : Int) (hc : Cur b i) : ∃ v i2 h2, spec_l1Once.f b i h n = some (v, i2, h2) ∧ Cur b i2 := by
  unfold spec_l1Once.f
  obtain ⟨v, i2, h2, e, _, _, _, c2⟩ := spec_l1Below_eq b i h n hc
  rw [e]
  exact ⟨_, _, _, rfl, c2⟩
theorem spec_l1New_l (l : List Int) (hl : (l.length : Int) ≤ 1048576) (d : Nat) : ∀ (i : Nat) (h : Int), i + d = l.length → ∃ h2, Ev (fun k => spec_l1New.l0 k l h i) (l, 0, h2) := by
  induction d with
  | zero =>
    intro i h hi
    refine ⟨h, Ev.step (f := fun _ => some (l, 0, h)) (fun k => ?_) (Ev.now _)⟩
    simp only [spec_l1New.l0]; rw [if_neg (by omega)]
  | succ d ih =>
    intro i h hi
    by_cases h4 : (i : Int) < 4000
    · obtain ⟨h2, e⟩ := ih (i + 1) (Go.bits .and .i64 (wrap64 ((wrap64 ((wrap64 (h * 137)) + (wrap64 (rd l i)))) + 11)) 1073741823) (by omega)
      refine ⟨h2, Ev.step (fun k => ?_) e⟩
      simp only [spec_l1New.l0]; rw [if_pos (by omega), if_pos h4, if_pos (by omega), w64 ((i : Int) + 1) (by omega) (by omega)]
      rfl
    · refine ⟨h, Ev.step (f := fun _ => some (l, 0, h)) (fun k => ?_) (Ev.now _)⟩
      simp only [spec_l1New.l0]; rw [if_pos (by omega), if_neg h4]
theorem spec_l1New_ev (l : List Int) (hl : (l.length : Int) ≤ 1048576) : ∃ h, Ev (fun k => spec_l1New.f k l) (l, 0, h) := spec_l1New_l l hl l.length 0 _ (by omega)
theorem budIL_set : ∀ (l : List S26) (i : Nat) (y : S26), budIL (l.set i y) ≤ budIL l + budI y
  | [], _, _ => by rw [List.set_nil]; omega
  | x :: r, 0, y => by rw [List.set_cons_zero, budIL, budIL]; omega
  | x :: r, i + 1, y => by rw [List.set_cons_succ, budIL, budIL]; have := budIL_set r i y; omega
theorem good_set (a b : Int) (s : ByteArray) (l : List S26) (n i : Nat) (y : S26) (h : goodM ⟨a, b, s, l⟩ (n + 1) = true) (hy : goodM y n = true) : goodM ⟨a, b, s, l.set i y⟩ (n + 1) = true := by
  rw [goodM, Bool.and_eq_true] at h ⊢
  refine ⟨?_, goodL_of _ _ (fun z hz => ?_)⟩
  · have h1 := h.1
    unfold shapeM at h1 ⊢
    rw [List.length_set]
    exact h1
  · rcases List.mem_or_eq_of_mem_set hz with hz | rfl
    · exact goodL_mem l n h.2 z hz
    · exact hy
theorem spec_DrawLessTerm_ev (l : List Int) (hl : (l.length : Int) ≤ 1048576) : ∃ x y : S26, Ev (fun k => spec_DrawLessTerm.f k l) (x.f0, x.f1, x.f2, x.f3, y.f0, y.f1, y.f2, y.f3) ∧ (goodM x 3 = true ∧ budI x ≤ 1000) ∧ goodM y 3 = true ∧ budI y ≤ 1000 := by
  obtain ⟨h, e0⟩ := spec_l1New_ev l hl
  have c : Cur l 0 := ⟨by omega, by omega, hl⟩
  obtain ⟨x, i1, h1, e1, ⟨hx, gx⟩, c1⟩ := drawN_all l 2 (by omega) 0 h c
  obtain ⟨y, i2, h2, e2, ⟨hy, gy⟩, c2⟩ := drawN_all l 2 (by omega) i1 h1 c1
  obtain ⟨v, i3, h3, e3, c3⟩ := spec_l1Once_eq l i2 h2 3 c2
  have hB := drawB_hi 2 (by omega)
  have ec := spec_l2Copy_all x (by omega)
  unfold spec_DrawLessTerm.f
  cases v with
  | false => exact ⟨x, y, Ev.bind e0 (Ev.bind e1 (Ev.bind e2 (Ev.bind (ev_of e3) (ev_neg (fun hf : false = true => Bool.noConfusion hf) (Ev.now _))))), ⟨gx, by omega⟩, gy, by omega⟩
  | true =>
    obtain ⟨a, b, s, m⟩ := x
    by_cases hm : (m.length : Int) > 0
    · obtain ⟨w, i4, h4, e4, w0, w1, _, c4⟩ := spec_l1Below_eq l i3 h3 m.length c3
      have w2 := w1 (by omega)
      obtain ⟨z, i5, h5, e5, ⟨hz, gz⟩, c5⟩ := drawN_all l 1 (by omega) i4 h4 c4
      have hB1 := drawB_hi 1 (by omega)
      refine ⟨⟨a, b, s, m⟩, ⟨a, b, s, m.set w.toNat z⟩, ?_, ⟨gx, by omega⟩, good_set a b s m 2 _ z gx gz, ?_⟩
      · refine Ev.bind e0 (Ev.bind e1 (Ev.bind e2 (Ev.bind (ev_of e3) (ev_pos rfl (Ev.bind ec (ev_pos hm (Ev.bind (ev_of e4) (Ev.bind e5 (ev_pos w0 (ev_pos w2 ?_))))))))))
        have ez : (⟨z.f0, z.f1, z.f2, z.f3⟩ : S26) = z := etaI z
        simp only [ez]
        exact Ev.now _
      · have := budIL_set m w.toNat z
        rw [budI_mk] at hx ⊢
        omega
    · exact ⟨⟨a, b, s, m⟩, ⟨a, b, s, m⟩, Ev.bind e0 (Ev.bind e1 (Ev.bind e2 (Ev.bind (ev_of e3) (ev_pos rfl (Ev.bind ec (ev_neg hm (Ev.now _))))))), ⟨gx, by omega⟩, gx, by omega⟩
theorem spec_DrawTerms_ev (l : List Int) (hl : (l.length : Int) ≤ 1048576) : ∃ x y z : S26, Ev (fun k => spec_DrawTerms.f k l) (x.f0, x.f1, x.f2, x.f3, y.f0, y.f1, y.f2, y.f3, z.f0, z.f1, z.f2, z.f3) ∧ (goodM x 3 = true ∧ budI x ≤ 1000) ∧ (goodM y 3 = true ∧ budI y ≤ 1000) ∧ goodM z 3 = true ∧ budI z ≤ 1000 := by
  obtain ⟨h, e0⟩ := spec_l1New_ev l hl
  have c : Cur l 0 := ⟨by omega, by omega, hl⟩
  obtain ⟨x, y, e1, hx, hy⟩ := spec_DrawLessTerm_ev l hl
  obtain ⟨z, i1, h1, e2, ⟨hz, gz⟩, c1⟩ := drawN_all l 2 (by omega) 0 h c
  have hB := drawB_hi 2 (by omega)
  refine ⟨x, y, z, ?_, hx, hy, gz, by omega⟩
  unfold spec_DrawTerms.f
  exact Ev.bind e0 (Ev.bind e1 (Ev.bind e2 (Ev.now _)))
mutual
def sameM : S26 → S26 → Bool
  | ⟨a, b, s, l⟩, y => decide (a = y.f0) && (decide (b = y.f1) && (decide (s.toList = y.f2.toList) && sameML l y.f3))
def sameML : List S26 → List S26 → Bool
  | [], l => l.isEmpty
  | x :: r, l => match l with
    | [] => false
    | y :: r2 => sameM x y && sameML r r2
end
theorem sameML_len : ∀ l m, sameML l m = true → l.length = m.length
  | [], m, h => by rw [sameML] at h; cases m <;> simp_all
  | x :: r, [], h => by rw [sameML] at h; cases h
  | x :: r, y :: r2, h => by
    rw [sameML, Bool.and_eq_true] at h
    rw [List.length_cons, List.length_cons, sameML_len r r2 h.2]
def cI (x y : Int) : Int := if x < y then -1 else if x > y then 1 else 0
def cB (s t : List UInt8) : Int := if Op.bytesLess s t = true then -1 else if Op.bytesLess t s = true then 1 else 0
mutual
def cmpM : S26 → S26 → Int
  | ⟨a, b, s, l⟩, y => if a = y.f0 then (if a = 1 ∨ a = 3 then cI b y.f1 else if a = 2 then cB s.toList y.f2.toList else if a = 4 then (if l.length = y.f3.length then cmpL l y.f3 else cI l.length y.f3.length) else if a = 5 then cmpL l y.f3 else 0) else cI a y.f0
def cmpL : List S26 → List S26 → Int
  | [], l => if l.isEmpty then 0 else -1
  | x :: r, l => match l with
    | [] => 1
    | y :: r2 => if cmpM x y = 0 then cmpL r r2 else cmpM x y
end
theorem cI_neg (x y : Int) : cI x y < 0 ↔ x < y := by unfold cI; split <;> (try split) <;> omega
theorem cI_zero {x y : Int} (h : cI x y = 0) : x = y := by unfold cI at h; split at h <;> (try split at h) <;> omega
theorem cI_anti (x y : Int) : cI y x = - cI x y := by unfold cI; split <;> (try split) <;> (try split) <;> (try split) <;> omega
theorem u8_lt (a b : UInt8) : a < b ↔ a.toNat < b.toNat := UInt8.lt_iff_toNat_lt
theorem bl_irr : ∀ s, Op.bytesLess s s = false
  | [] => rfl
  | a :: x => by
    rw [Op.bytesLess, bl_irr x]
    have : ¬ a < a := by rw [u8_lt]; omega
    simp [this]
theorem bl_cons (a b : UInt8) (x y : List UInt8) : Op.bytesLess (a :: x) (b :: y) = true ↔ a.toNat < b.toNat ∨ (a.toNat = b.toNat ∧ Op.bytesLess x y = true) := by
  rw [Op.bytesLess, Bool.or_eq_true, Bool.and_eq_true, decide_eq_true_eq, u8_lt, beq_iff_eq, ← UInt8.toNat_inj]
theorem bl_tri : ∀ s t, ¬ Op.bytesLess s t = true → ¬ Op.bytesLess t s = true → s = t
  | [], [], _, _ => rfl
  | [], _ :: _, h, _ => absurd rfl h
  | _ :: _, [], _, h => absurd rfl h
  | a :: x, b :: y, h1, h2 => by
    rw [bl_cons] at h1 h2
    have e : a.toNat = b.toNat := by omega
    rw [UInt8.toNat_inj.1 e, bl_tri x y (fun h => h1 (.inr ⟨e, h⟩)) (fun h => h2 (.inr ⟨e.symm, h⟩))]
theorem bl_trans : ∀ s t u, Op.bytesLess s t = true → Op.bytesLess t u = true → Op.bytesLess s u = true
  | _, _, [], _, h => by simp [Op.bytesLess] at h
  | [], _, _ :: _, _, _ => rfl
  | _ :: _, [], _, h, _ => by simp [Op.bytesLess] at h
  | a :: x, b :: y, c :: z, h1, h2 => by
    rw [bl_cons] at h1 h2 ⊢
    rcases h1 with h1 | ⟨h1, h1'⟩
    · rcases h2 with h2 | ⟨h2, h2'⟩
      · exact .inl (by omega)
      · exact .inl (by omega)
    · rcases h2 with h2 | ⟨h2, h2'⟩
      · exact .inl (by omega)
      · exact .inr ⟨by omega, bl_trans x y z h1' h2'⟩
theorem cB_neg (s t : List UInt8) : cB s t < 0 ↔ Op.bytesLess s t = true := by
  unfold cB
  by_cases h : Op.bytesLess s t = true
  · rw [if_pos h]; simp [h]
  · rw [if_neg h]
    split <;> simp [h]
theorem cB_zero {s t : List UInt8} (h : cB s t = 0) : s = t := by
  unfold cB at h
  by_cases h1 : Op.bytesLess s t = true
  · rw [if_pos h1] at h; omega
  · rw [if_neg h1] at h
    by_cases h2 : Op.bytesLess t s = true
    · rw [if_pos h2] at h; omega
    · exact bl_tri s t h1 h2
theorem cB_anti (s t : List UInt8) : cB t s = - cB s t := by
  unfold cB
  by_cases h1 : Op.bytesLess s t = true
  · by_cases h2 : Op.bytesLess t s = true
    · have := bl_trans s t s h1 h2
      rw [bl_irr] at this
      cases this
    · rw [if_neg h2, if_pos h1, if_pos h1]; rfl
  · by_cases h2 : Op.bytesLess t s = true
    · rw [if_pos h2, if_neg h1, if_pos h2]
    · rw [if_neg h2, if_neg h1, if_neg h1, if_neg h2]; rfl
theorem str_ext {s t : ByteArray} (h : s.toList = t.toList) : s = t := by
  rw [Go.Lib.toList_data, Go.Lib.toList_data] at h
  exact ByteArray.ext (Array.toList_inj.1 h)
theorem cmpL_anti : ∀ (l : List S26), (∀ x ∈ l, ∀ y, cmpM y x = - cmpM x y) → ∀ m, cmpL m l = - cmpL l m
  | [], _, [] => by rw [cmpL]; rfl
  | [], _, _ :: _ => by rw [cmpL, cmpL]; rfl
  | _ :: _, _, [] => by rw [cmpL, cmpL]; rfl
  | x :: r, h, y :: m => by
    rw [cmpL, cmpL]
    have h1 := h x List.mem_cons_self y
    have h2 := cmpL_anti r (fun z hz => h z (List.mem_cons_of_mem _ hz)) m
    by_cases h0 : cmpM x y = 0
    · rw [if_pos h0, if_pos (by omega), h2]
    · rw [if_neg h0, if_neg (by omega), h1]
theorem cmp_anti : ∀ x y, cmpM y x = - cmpM x y := by
  refine indI (fun a b s l ih y => ?_)
  obtain ⟨a2, b2, s2, m⟩ := y
  rw [cmpM, cmpM]
  simp only
  by_cases h : a = a2
  · subst h
    rw [if_pos rfl, if_pos rfl]
    by_cases c1 : a = 1 ∨ a = 3
    · rw [if_pos c1, if_pos c1]; exact cI_anti _ _
    rw [if_neg c1, if_neg c1]
    by_cases c2 : a = 2
    · rw [if_pos c2, if_pos c2]; exact cB_anti _ _
    rw [if_neg c2, if_neg c2]
    have hL := cmpL_anti l ih m
    by_cases c4 : a = 4
    · rw [if_pos c4, if_pos c4]
      by_cases hl : l.length = m.length
      · rw [if_pos hl, if_pos hl.symm]; exact hL
      · rw [if_neg hl, if_neg (fun e => hl e.symm)]; exact cI_anti _ _
    rw [if_neg c4, if_neg c4]
    by_cases c5 : a = 5
    · rw [if_pos c5, if_pos c5]; exact hL
    · rw [if_neg c5, if_neg c5]; rfl
  · rw [if_neg h, if_neg (fun e => h e.symm)]; exact cI_anti _ _
theorem cmpL_zero : ∀ (l : List S26), (∀ x ∈ l, ∀ n, goodM x n = true → ∀ y m, goodM y m = true → cmpM x y = 0 → x = y) → ∀ (m : List S26) (n n2 : Nat), (∀ x ∈ l, goodM x n = true) → (∀ y ∈ m, goodM y n2 = true) → cmpL l m = 0 → l = m
  | [], _, [], _, _, _, _, _ => rfl
  | [], _, _ :: _, _, _, _, _, h => by rw [cmpL] at h; simp at h
  | _ :: _, _, [], _, _, _, _, h => by rw [cmpL] at h; simp at h
  | x :: r, hx, y :: m, n, n2, h1, h2, h => by
    rw [cmpL] at h
    by_cases h0 : cmpM x y = 0
    · rw [if_pos h0] at h
      rw [hx x List.mem_cons_self n (h1 x List.mem_cons_self) y n2 (h2 y List.mem_cons_self) h0, cmpL_zero r (fun z hz => hx z (List.mem_cons_of_mem _ hz)) m n n2 (fun z hz => h1 z (List.mem_cons_of_mem _ hz)) (fun z hz => h2 z (List.mem_cons_of_mem _ hz)) h]
    · rw [if_neg h0] at h
      exact absurd h h0
theorem cmp_zero : ∀ x n, goodM x n = true → ∀ y m, goodM y m = true → cmpM x y = 0 → x = y := by
  refine indI (fun a b s l ih n hg y m hy h => ?_)
  obtain ⟨a2, b2, s2, l2⟩ := y
  obtain ⟨n1, rfl, hs, hl⟩ := good_mk hg
  obtain ⟨m1, rfl, hs2, hl2⟩ := good_mk hy
  rw [cmpM] at h
  simp only at h
  have ha : a = a2 := by
    by_cases e : a = a2
    · exact e
    · rw [if_neg e] at h; exact cI_zero h
  subst ha
  rw [if_pos rfl] at h
  have hL := cmpL_zero l ih l2 n1 m1 (goodL_mem l n1 hl) (goodL_mem l2 m1 hl2)
  rcases shape_cases hs with ⟨rfl, _, _, rfl, rfl⟩ | ⟨rfl, rfl, _, rfl⟩ | ⟨rfl, _, _, rfl, rfl⟩ | ⟨h45, rfl, rfl, _⟩
  · rcases shape_cases hs2 with ⟨_, _, _, rfl, rfl⟩ | ⟨q, _⟩ | ⟨q, _⟩ | ⟨q, _⟩
    · rw [if_pos (by decide)] at h; rw [cI_zero h]
    · omega
    · omega
    · omega
  · rcases shape_cases hs2 with ⟨q, _⟩ | ⟨_, rfl, _, rfl⟩ | ⟨q, _⟩ | ⟨q, _⟩
    · omega
    · rw [if_neg (by decide), if_pos rfl] at h; rw [str_ext (cB_zero h)]
    · omega
    · omega
  · rcases shape_cases hs2 with ⟨q, _⟩ | ⟨q, _⟩ | ⟨_, _, _, rfl, rfl⟩ | ⟨q, _⟩
    · omega
    · omega
    · rw [if_pos (by decide)] at h; rw [cI_zero h]
    · omega
  · rcases shape_cases hs2 with ⟨q, _⟩ | ⟨q, _⟩ | ⟨q, _⟩ | ⟨_, rfl, rfl, _⟩
    · omega
    · omega
    · omega
    · rw [if_neg (by omega), if_neg (by omega)] at h
      rcases h45 with rfl | rfl
      · rw [if_pos rfl] at h
        by_cases hn : l.length = l2.length
        · rw [if_pos hn] at h; rw [hL h]
        · rw [if_neg hn] at h
          have := cI_zero h
          omega
      · rw [if_neg (by decide), if_pos rfl] at h; rw [hL h]
mutual
theorem cmp_refl : ∀ x, cmpM x x = 0
  | ⟨a, b, s, l⟩ => by
    have h1 : ∀ z, cI z z = 0 := fun z => by unfold cI; rw [if_neg (by omega), if_neg (by omega)]
    have h2 : cB s.toList s.toList = 0 := by unfold cB; rw [bl_irr]; rfl
    rw [cmpM, if_pos rfl, if_pos rfl, h1, h2, cmpL_refl l]
    split
    · rfl
    · split
      · rfl
      · split
        · rfl
        · split <;> rfl
theorem cmpL_refl : ∀ l, cmpL l l = 0
  | [] => by rw [cmpL]; rfl
  | x :: r => by rw [cmpL, cmp_refl x, cmpL_refl r]; rfl
end
theorem cmpL_trans : ∀ (l : List S26), (∀ x ∈ l, ∀ n, goodM x n = true → ∀ y m, goodM y m = true → ∀ z q, goodM z q = true → cmpM x y < 0 → cmpM y z < 0 → cmpM x z < 0) →
    ∀ (m k : List S26) (n1 n2 n3 : Nat), (∀ x ∈ l, goodM x n1 = true) → (∀ y ∈ m, goodM y n2 = true) → (∀ z ∈ k, goodM z n3 = true) → cmpL l m < 0 → cmpL m k < 0 → cmpL l k < 0
  | [], _, [], _, _, _, _, _, _, _, h, _ => by rw [cmpL] at h; simp at h
  | [], _, _ :: _, [], _, _, _, _, _, _, _, h => by rw [cmpL] at h; simp at h
  | [], _, _ :: _, _ :: _, _, _, _, _, _, _, _, _ => by rw [cmpL]; show (if false = true then (0 : Int) else -1) < 0; decide
  | _ :: _, _, [], _, _, _, _, _, _, _, h, _ => by rw [cmpL] at h; simp at h
  | _ :: _, _, _ :: _, [], _, _, _, _, _, _, _, h => by rw [cmpL] at h; simp at h
  | x :: r, hx, y :: m, z :: k, n1, n2, n3, h1, h2, h3, ha, hb => by
    rw [cmpL] at ha hb ⊢
    have g1 := h1 x List.mem_cons_self
    have g2 := h2 y List.mem_cons_self
    have g3 := h3 z List.mem_cons_self
    have ih := cmpL_trans r (fun q hq => hx q (List.mem_cons_of_mem _ hq)) m k n1 n2 n3 (fun q hq => h1 q (List.mem_cons_of_mem _ hq)) (fun q hq => h2 q (List.mem_cons_of_mem _ hq)) (fun q hq => h3 q (List.mem_cons_of_mem _ hq))
    by_cases c1 : cmpM x y = 0
    · have e := cmp_zero x n1 g1 y n2 g2 c1
      subst e
      rw [if_pos c1] at ha
      by_cases c2 : cmpM x z = 0
      · rw [if_pos c2] at hb ⊢
        exact ih ha hb
      · rw [if_neg c2] at hb ⊢
        exact hb
    · rw [if_neg c1] at ha
      by_cases c2 : cmpM y z = 0
      · have e := cmp_zero y n2 g2 z n3 g3 c2
        subst e
        rw [if_neg c1]
        exact ha
      · rw [if_neg c2] at hb
        have hc := hx x List.mem_cons_self n1 g1 y n2 g2 z n3 g3 ha hb
        rw [if_neg (by omega)]
        exact hc
theorem cmp_le {x y : S26} (h : cmpM x y < 0) : x.f0 ≤ y.f0 := by
  cases x
  rw [cmpM] at h
  split at h
  next e => exact Int.le_of_eq e
  next e => rw [cI_neg] at h; exact Int.le_of_lt h
theorem cmp_trans : ∀ x n, goodM x n = true → ∀ y m, goodM y m = true → ∀ z q, goodM z q = true → cmpM x y < 0 → cmpM y z < 0 → cmpM x z < 0 := by
  refine indI (fun a b s l ih n hg y m hy z q hz h1 h2 => ?_)
  have e1 := cmp_le h1
  have e2 := cmp_le h2
  obtain ⟨a2, b2, s2, l2⟩ := y
  obtain ⟨a3, b3, s3, l3⟩ := z
  obtain ⟨n1, rfl, hs, hl⟩ := good_mk hg
  obtain ⟨m1, rfl, hs2, hl2⟩ := good_mk hy
  obtain ⟨q1, rfl, hs3, hl3⟩ := good_mk hz
  simp only at e1 e2
  have hL := cmpL_trans l ih l2 l3 n1 m1 q1 (goodL_mem l n1 hl) (goodL_mem l2 m1 hl2) (goodL_mem l3 q1 hl3)
  rw [cmpM] at h1 h2 ⊢
  simp only at h1 h2 ⊢
  by_cases c : a = a3
  · have ca : a = a2 := by omega
    subst ca
    subst c
    rw [if_pos rfl] at h1 h2 ⊢
    by_cases c1 : a = 1 ∨ a = 3
    · rw [if_pos c1, cI_neg] at h1 h2 ⊢; omega
    rw [if_neg c1] at h1 h2 ⊢
    by_cases c2 : a = 2
    · rw [if_pos c2, cB_neg] at h1 h2 ⊢; exact bl_trans _ _ _ h1 h2
    rw [if_neg c2] at h1 h2 ⊢
    by_cases c4 : a = 4
    · rw [if_pos c4] at h1 h2 ⊢
      by_cases k1 : l.length = l2.length
      · by_cases k2 : l2.length = l3.length
        · rw [if_pos k1] at h1
          rw [if_pos k2] at h2
          rw [if_pos (by omega)]
          exact hL h1 h2
        · rw [if_neg k2, cI_neg] at h2
          rw [if_neg (by omega), cI_neg]; omega
      · rw [if_neg k1, cI_neg] at h1
        by_cases k2 : l2.length = l3.length
        · rw [if_neg (by omega), cI_neg]; omega
        · rw [if_neg k2, cI_neg] at h2
          rw [if_neg (by omega), cI_neg]; omega
    rw [if_neg c4] at h1 h2 ⊢
    by_cases c5 : a = 5
    · rw [if_pos c5] at h1 h2 ⊢; exact hL h1 h2
    · rw [if_neg c5] at h1; omega
  · rw [if_neg c, cI_neg]; omega
theorem cmpInt_eq (x y : Int) : cmp_Compare_int.f x y = some (cI x y) := by
  unfold cmp_Compare_int.f cmp_isNaN_int.f cI
  have h1 : (x != x) = false := by simp
  have h2 : (y != y) = false := by simp
  simp only [Option.bind_some, h1, h2]
  rw [if_neg (by decide), if_neg (by decide)]
  split
  · rfl
  · split <;> rfl
theorem cmpStr_eq (x y : ByteArray) : cmp_Compare_string.f x y = some (cB x.toList y.toList) := by
  unfold cmp_Compare_string.f cmp_isNaN_string.f cB
  have h1 : (x.toList != x.toList) = false := by simp
  have h2 : (y.toList != y.toList) = false := by simp
  simp only [Option.bind_some, h1, h2]
  rw [if_neg (by decide), if_neg (by decide)]
  split
  · rfl
  · split <;> rfl
theorem cmpF_loop (l m : List S26) (hl : (l.length : Int) ≤ 4194304) (h : ∀ x ∈ l, ∀ y ∈ m, Ev (fun k => impl_compareTerms.f k x.f0 x.f1 x.f2 x.f3 y.f0 y.f1 y.f2 y.f3) (cmpM x y)) (d : Nat) :
    ∀ (i : Nat), i + d = l.length → Ev (fun k => slices_CompareFunc_of_impl_compareTerms.l0 k l m l (l.length : Int) i) (cmpL (l.drop i) (m.drop i)) := by
  induction d with
  | zero =>
    intro i hi
    refine Ev.step (f := fun _ => if (l.length : Int) < (m.length : Int) then (some (-1)) else (some 0)) (fun k => ?_) ?_
    · simp only [slices_CompareFunc_of_impl_compareTerms.l0]; rw [if_neg (by omega)]
    · rw [List.drop_eq_nil_of_le (by omega), cmpL]
      by_cases hm : l.length < m.length
      · refine ev_pos (by omega) (ev_cast ?_ (Ev.now _))
        rw [List.drop_eq_getElem_cons (by omega)]; rfl
      · refine ev_neg (by omega) (ev_cast ?_ (Ev.now _))
        rw [List.drop_eq_nil_of_le (by omega)]; rfl
  | succ d ih =>
    intro i hi
    have hlt : i < l.length := by omega
    have hn := ih (i + 1) (by omega)
    by_cases hm : i < m.length
    · have e := h _ (rdI_mem l i hlt) _ (rdI_mem m i hm)
      rw [dropI l i hlt, dropI m i hm, cmpL]
      generalize hy : rd_T26 l i = y at *
      generalize hz : rd_T26 m i = z at *
      refine Ev.step (f := fun k => (impl_compareTerms.f k y.f0 y.f1 y.f2 y.f3 z.f0 z.f1 z.f2 z.f3).bind fun t => (if t = 0 then (slices_CompareFunc_of_impl_compareTerms.l0 k l m l (l.length : Int) (wrap64 ((i : Int) + 1))) else (some t))) (fun k => ?_) (Ev.bind e ?_)
      · simp only [slices_CompareFunc_of_impl_compareTerms.l0]
        rw [if_pos (by omega), if_pos (by omega), if_pos (by omega), if_neg (by omega), if_pos (by omega), hy, hz]
      · rw [w64 _ (by omega) (by omega)]
        by_cases h0 : cmpM y z = 0
        · rw [if_pos h0]; exact ev_pos h0 hn
        · rw [if_neg h0]; exact ev_neg h0 (Ev.now _)
    · refine Ev.step (f := fun _ => some 1) (fun k => ?_) (ev_cast ?_ (Ev.now _))
      · simp only [slices_CompareFunc_of_impl_compareTerms.l0]
        rw [if_pos (by omega), if_pos (by omega), if_pos (by omega), if_pos (by omega)]
      · rw [dropI l i hlt, List.drop_eq_nil_of_le (show m.length ≤ i by omega), cmpL]
theorem impl_cmp_all : ∀ x, (budI x : Int) ≤ 4194304 → ∀ y, Ev (fun k => impl_compareTerms.f k x.f0 x.f1 x.f2 x.f3 y.f0 y.f1 y.f2 y.f3) (cmpM x y) := by
  refine indI (fun a b s l ih hb y => ?_)
  obtain ⟨a2, b2, s2, m⟩ := y
  rw [budI_mk] at hb
  have hll := budIL_len l
  have hf : Ev (fun k => slices_CompareFunc_of_impl_compareTerms.f k l m) (cmpL l m) := by
    have e := cmpF_loop l m (by omega) (fun x hx y _ => ih x hx (by have := budI_mem l x hx; omega) y) l.length 0 (by omega)
    exact Ev.step (fun k => by simp only [slices_CompareFunc_of_impl_compareTerms.f]; rfl) e
  rw [cmpM]
  show Ev (fun k => impl_compareTerms.f k a b s l a2 b2 s2 m) _
  simp only
  by_cases h : a = a2
  · subst h
    rw [if_pos rfl]
    have key : ∀ q : Bool, (q = true ↔ (a = 1 ∨ a = 3)) → Ev (fun k => impl_compareTerms.j0 k a q a b s l a b2 s2 m) (if a = 1 ∨ a = 3 then cI b b2 else if a = 2 then cB s.toList s2.toList else if a = 4 then (if l.length = m.length then cmpL l m else cI l.length m.length) else if a = 5 then cmpL l m else 0) := by
      intro q hq
      by_cases c1 : a = 1 ∨ a = 3
      · rw [if_pos c1]
        refine Ev.step (f := fun k => (cmp_Compare_int.f b b2).bind fun t273 => (some t273)) (fun k => ?_) (Ev.bind (ev_of (cmpInt_eq _ _)) (Ev.now _))
        simp only [impl_compareTerms.j0]; rw [if_pos (hq.2 c1)]
      have hq2 : ¬ q = true := fun e => c1 (hq.1 e)
      rw [if_neg c1]
      by_cases c2 : a = 2
      · rw [if_pos c2]
        refine Ev.step (f := fun k => (cmp_Compare_string.f s s2).bind fun t274 => (some t274)) (fun k => ?_) (Ev.bind (ev_of (cmpStr_eq _ _)) (Ev.now _))
        simp only [impl_compareTerms.j0]; rw [if_neg hq2, if_pos c2]
      rw [if_neg c2]
      by_cases c4 : a = 4
      · rw [if_pos c4]
        refine Ev.step (f := fun k => (if (l.length : Int) = (m.length : Int) then ((slices_CompareFunc_of_impl_compareTerms.f k l m).bind fun t275 => (some t275)) else ((cmp_Compare_int.f (l.length : Int) (m.length : Int)).bind fun t276 => (some t276)))) (fun k => ?_) ?_
        · simp only [impl_compareTerms.j0]; rw [if_neg hq2, if_neg c2, if_pos c4]
        · by_cases hl : l.length = m.length
          · rw [if_pos hl]; exact ev_pos (by omega) (Ev.bind hf (Ev.now _))
          · rw [if_neg hl]; exact ev_neg (by omega) (Ev.bind (ev_of (cmpInt_eq _ _)) (Ev.now _))
      rw [if_neg c4]
      by_cases c5 : a = 5
      · rw [if_pos c5]
        refine Ev.step (f := fun k => ((slices_CompareFunc_of_impl_compareTerms.f k l m).bind fun t277 => (some t277))) (fun k => ?_) (Ev.bind hf (Ev.now _))
        simp only [impl_compareTerms.j0]; rw [if_neg hq2, if_neg c2, if_neg c4, if_pos c5]
      · rw [if_neg c5]
        refine Ev.step (f := fun _ => some 0) (fun k => ?_) (Ev.now _)
        simp only [impl_compareTerms.j0]; rw [if_neg hq2, if_neg c2, if_neg c4, if_neg c5]
    by_cases c1 : a = 1
    · refine Ev.step (f := fun k => impl_compareTerms.j0 k a (a == 1) a b s l a b2 s2 m) (fun k => ?_) (key _ (by rw [beq_iff_eq]; omega))
      simp only [impl_compareTerms.f]; rw [if_pos trivial, if_pos c1]
    · refine Ev.step (f := fun k => impl_compareTerms.j0 k a (a == 3) a b s l a b2 s2 m) (fun k => ?_) (key _ (by rw [beq_iff_eq]; omega))
      simp only [impl_compareTerms.f]; rw [if_pos trivial, if_neg c1]
  · rw [if_neg h]
    refine Ev.step (f := fun k => (cmp_Compare_int.f a a2).bind fun t272 => (some t272)) (fun k => ?_) (Ev.bind (ev_of (cmpInt_eq _ _)) (Ev.now _))
    simp only [impl_compareTerms.f]; rw [if_neg h]
theorem impl_LessTerm_ev (x y : S26) (hb : (budI x : Int) ≤ 4194304) : Ev (fun k => impl_LessTerm.f k x.f0 x.f1 x.f2 x.f3 y.f0 y.f1 y.f2 y.f3) (decide (cmpM x y < 0)) := by
  unfold impl_LessTerm.f
  exact Ev.bind (impl_cmp_all x hb y) (Ev.now _)
mutual
theorem sameM_eq : ∀ x y, sameM x y = true → x = y
  | ⟨a, b, s, l⟩, ⟨a2, b2, s2, l2⟩, h => by
    rw [sameM] at h
    simp only [Bool.and_eq_true, decide_eq_true_eq, Go.Lib.toList_data] at h
    obtain ⟨rfl, rfl, h3, h4⟩ := h
    have e : s = s2 := ByteArray.ext (Array.toList_inj.1 h3)
    rw [e, sameML_eq l l2 h4]
theorem sameML_eq : ∀ l m, sameML l m = true → l = m
  | [], [], _ => rfl
  | [], _ :: _, h => by rw [sameML] at h; cases h
  | _ :: _, [], h => by rw [sameML] at h; cases h
  | x :: r, y :: m, h => by
    rw [sameML, Bool.and_eq_true] at h
    rw [sameM_eq x y h.1, sameML_eq r m h.2]
end
mutual
theorem sameM_refl : ∀ x, sameM x x = true
  | ⟨a, b, s, l⟩ => by rw [sameM, sameML_refl l]; simp
theorem sameML_refl : ∀ l, sameML l l = true
  | [] => by rw [sameML]; rfl
  | x :: r => by rw [sameML, sameM_refl x, sameML_refl r]; rfl
end
theorem spec_Same_loop (a b : Int) (s : ByteArray) (l : List S26) (a2 b2 : Int) (s2 : ByteArray) (m : List S26) (hl : (budIL l : Int) ≤ 4194304) (hm : l.length = m.length)
    (h : ∀ y ∈ l, ∀ z, Ev (fun k => spec_SameTerm.f k y.f0 y.f1 y.f2 y.f3 z.f0 z.f1 z.f2 z.f3) (sameM y z)) (d : Nat) : ∀ (i : Nat), i + d = l.length → Ev (fun k => spec_SameTerm.l0 k i a b s l a2 b2 s2 m) (sameML (l.drop i) (m.drop i)) := by
  have hlen := budIL_len l
  induction d with
  | zero =>
    intro i hi
    refine Ev.step (f := fun _ => some true) (fun k => ?_) (ev_cast ?_ (Ev.now _))
    · simp only [spec_SameTerm.l0]; rw [if_neg (by omega)]
    · rw [List.drop_eq_nil_of_le (by omega), List.drop_eq_nil_of_le (by omega)]; rfl
  | succ d ih =>
    intro i hi
    have hlt : i < l.length := by omega
    have e := h _ (rdI_mem l i hlt) (rd_T26 m i)
    have hn := ih (i + 1) (by omega)
    rw [dropI l i hlt, dropI m i (by omega), sameML]
    generalize hy : rd_T26 l i = y at *
    generalize hz : rd_T26 m i = z at *
    refine Ev.step (f := fun k => (spec_SameTerm.f k y.f0 y.f1 y.f2 y.f3 z.f0 z.f1 z.f2 z.f3).bind fun t => (if t = true then (spec_SameTerm.l0 k (wrap64 ((i : Int) + 1)) a b s l a2 b2 s2 m) else (some false))) (fun k => ?_) (Ev.bind e ?_)
    · simp only [spec_SameTerm.l0]; rw [if_pos (by omega), if_pos (by omega), if_pos (by omega), hy, hz]
    · rw [w64 _ (by omega) (by omega)]
      cases hs : sameM y z with
      | true => exact ev_pos rfl hn
      | false => exact ev_neg (by decide) (Ev.now _)
theorem spec_Same_all : ∀ x, (budI x : Int) ≤ 4194304 → ∀ z, Ev (fun k => spec_SameTerm.f k x.f0 x.f1 x.f2 x.f3 z.f0 z.f1 z.f2 z.f3) (sameM x z) := by
  refine indI ?_
  intro a b s l ih hb z
  rw [budI] at hb
  obtain ⟨a2, b2, s2, m⟩ := z
  have no : Ev (fun k => spec_SameTerm.j0 k true a b s l a2 b2 s2 m) false := Ev.step (f := fun _ => some false) (fun k => by simp [spec_SameTerm.j0]) (Ev.now _)
  rw [sameM]
  simp only []
  by_cases h1 : a = a2
  · by_cases h2 : b = b2
    · by_cases h3 : s.toList = s2.toList
      · by_cases h4 : l.length = m.length
        · have e := spec_Same_loop a b s l a2 b2 s2 m (by omega) h4 (fun y hy z => ih y hy (by have := budI_mem l y hy; omega) z) l.length 0 (by omega)
          refine Ev.step (f := fun k => spec_SameTerm.j0 k false a b s l a2 b2 s2 m) (fun k => ?_) (Ev.step (fun k => ?_) (ev_cast ?_ e))
          · simp only [spec_SameTerm.f]; rw [if_pos h1, if_pos h2, if_pos h3, h4]; simp
          · simp only [spec_SameTerm.j0]; rw [if_neg (by decide)]; rfl
          · simp [h1, h2, h3]
        · refine Ev.step (fun k => ?_) (ev_cast ?_ no)
          · simp only [spec_SameTerm.f]; rw [if_pos h1, if_pos h2, if_pos h3]
            congr 1
            simp; omega
          · cases hs : sameML l m with
            | true => exact absurd (sameML_len l m hs) h4
            | false => simp
      · refine Ev.step (fun k => ?_) (ev_cast ?_ no)
        · simp only [spec_SameTerm.f]; rw [if_pos h1, if_pos h2, if_neg h3]
        · simp [h3]
    · refine Ev.step (fun k => ?_) (ev_cast ?_ no)
      · simp only [spec_SameTerm.f]; rw [if_pos h1, if_neg h2]
      · simp [h2]
  · refine Ev.step (fun k => ?_) (ev_cast ?_ no)
    · simp only [spec_SameTerm.f]; rw [if_neg h1]
    · simp [h1]
theorem same_cmp {x y : S26} {n m : Nat} (hx : goodM x n = true) (hy : goodM y m = true) : sameM x y = decide (cmpM x y = 0) := by
  by_cases h : cmpM x y = 0
  · rw [decide_eq_true h, cmp_zero x n hx y m hy h, sameM_refl]
  · rw [decide_eq_false h]
    cases hs : sameM x y with
    | false => rfl
    | true => exact absurd (by rw [sameM_eq x y hs]; exact cmp_refl y) h
theorem sless_loop (a b : Int) (s : ByteArray) (l : List S26) (a2 b2 : Int) (s2 : ByteArray) (m : List S26) (hl : (budIL l : Int) ≤ 4194304) (n1 n2 : Nat) (hg1 : ∀ x ∈ l, goodM x n1 = true) (hg2 : ∀ y ∈ m, goodM y n2 = true)
    (h : ∀ x ∈ l, ∀ y ∈ m, Ev (fun k => spec_LessTerm.f k x.f0 x.f1 x.f2 x.f3 y.f0 y.f1 y.f2 y.f3) (decide (cmpM x y < 0))) (d : Nat) :
    ∀ (i : Nat), i + d = l.length → Ev (fun k => spec_LessTerm.l0 k i a b s l a2 b2 s2 m) (decide (cmpL (l.drop i) (m.drop i) < 0)) := by
  have hlen := budIL_len l
  have stop : ∀ i : Nat, Ev (fun k => spec_LessTerm.j3 k i false a b s l a2 b2 s2 m) (decide ((l.length : Int) < (m.length : Int))) := fun i => Ev.step (f := fun _ => some (decide ((l.length : Int) < (m.length : Int)))) (fun k => by simp only [spec_LessTerm.j3]; rw [if_neg (by decide)]) (Ev.now _)
  induction d with
  | zero =>
    intro i hi
    refine Ev.step (f := fun k => spec_LessTerm.j3 k i false a b s l a2 b2 s2 m) (fun k => ?_) (ev_cast ?_ (stop i))
    · simp only [spec_LessTerm.l0]; rw [if_neg (by omega)]
    · rw [List.drop_eq_nil_of_le (by omega), cmpL]
      by_cases hm : l.length < m.length
      · rw [List.drop_eq_getElem_cons (by omega), decide_eq_true (by omega)]; rfl
      · rw [List.drop_eq_nil_of_le (by omega), decide_eq_false (by omega)]; rfl
  | succ d ih =>
    intro i hi
    have hlt : i < l.length := by omega
    have hn := ih (i + 1) (by omega)
    by_cases hm : i < m.length
    · have hxm := rdI_mem l i hlt
      have hym := rdI_mem m i hm
      have e := h _ hxm _ hym
      have es := spec_Same_all (rd_T26 l i) (by have := budI_mem l _ hxm; omega) (rd_T26 m i)
      have hsc := same_cmp (hg1 _ hxm) (hg2 _ hym)
      rw [dropI l i hlt, dropI m i hm, cmpL]
      generalize hy : rd_T26 l i = y at *
      generalize hz : rd_T26 m i = z at *
      refine Ev.step (f := fun k => spec_LessTerm.j3 k i true a b s l a2 b2 s2 m) (fun k => ?_) (Ev.step (f := fun k => (spec_SameTerm.f k y.f0 y.f1 y.f2 y.f3 z.f0 z.f1 z.f2 z.f3).bind fun t298 => (if t298 = true then (spec_LessTerm.l0 k (wrap64 ((i : Int) + 1)) a b s l a2 b2 s2 m) else ((spec_LessTerm.f k y.f0 y.f1 y.f2 y.f3 z.f0 z.f1 z.f2 z.f3).bind fun t301 => (some t301)))) (fun k => ?_) (Ev.bind es ?_))
      · simp only [spec_LessTerm.l0]
        rw [if_pos (by omega), decide_eq_true (by omega)]
      · simp only [spec_LessTerm.j3]
        rw [if_pos trivial, if_pos (by omega), if_pos (by omega), if_pos (by omega), hy, hz]
      · rw [w64 _ (by omega) (by omega), hsc]
        by_cases h0 : cmpM y z = 0
        · rw [if_pos h0]; exact ev_pos (decide_eq_true h0) hn
        · rw [if_neg h0]; exact ev_neg (by rw [decide_eq_false h0]; decide) (Ev.bind e (Ev.now _))
    · refine Ev.step (f := fun k => spec_LessTerm.j3 k i false a b s l a2 b2 s2 m) (fun k => ?_) (ev_cast ?_ (stop i))
      · simp only [spec_LessTerm.l0]; rw [if_pos (by omega), decide_eq_false (by omega)]
      · rw [dropI l i hlt, List.drop_eq_nil_of_le (show m.length ≤ i by omega), cmpL, decide_eq_false (by omega)]; rfl
theorem spec_Less_all : ∀ x n, goodM x n = true → (budI x : Int) ≤ 4194304 → ∀ y m, goodM y m = true → Ev (fun k => spec_LessTerm.f k x.f0 x.f1 x.f2 x.f3 y.f0 y.f1 y.f2 y.f3) (decide (cmpM x y < 0)) := by
  refine indI (fun a b s l ih n hg hb y m hy => ?_)
  obtain ⟨a2, b2, s2, l2⟩ := y
  obtain ⟨n1, rfl, hs, hl⟩ := good_mk hg
  obtain ⟨m1, rfl, hs2, hl2⟩ := good_mk hy
  rw [budI_mk] at hb
  have hg1 := goodL_mem l n1 hl
  have hg2 := goodL_mem l2 m1 hl2
  have hL := sless_loop a b s l a2 b2 s2 l2 (by omega) n1 m1 hg1 hg2 (fun x hx y hy => ih x hx n1 (hg1 x hx) (by have := budI_mem l x hx; omega) y m1 (hg2 y hy)) l.length 0 (by omega)
  have hJ : Ev (fun k => spec_LessTerm.j1 k a b s l a2 b2 s2 l2) (decide (cmpL l l2 < 0)) := Ev.step (fun k => by simp only [spec_LessTerm.j1]; rfl) hL
  rw [cmpM]
  show Ev (fun k => spec_LessTerm.f k a b s l a2 b2 s2 l2) _
  simp only
  by_cases h : a = a2
  · rw [if_pos h]
    have key : ∀ q : Bool, (q = true ↔ (a = 1 ∨ a = 3)) → Ev (fun k => spec_LessTerm.j0 k q a b s l a2 b2 s2 l2) (decide ((if a = 1 ∨ a = 3 then cI b b2 else if a = 2 then cB s.toList s2.toList else if a = 4 then (if l.length = l2.length then cmpL l l2 else cI l.length l2.length) else if a = 5 then cmpL l l2 else 0) < 0)) := by
      intro q hq
      by_cases c1 : a = 1 ∨ a = 3
      · rw [if_pos c1]
        refine Ev.step (f := fun _ => some (decide (b < b2))) (fun k => ?_) (ev_cast ?_ (Ev.now _))
        · simp only [spec_LessTerm.j0]; rw [if_pos (hq.2 c1)]
        · rw [decide_eq_decide, cI_neg]
      have hq2 : ¬ q = true := fun e => c1 (hq.1 e)
      rw [if_neg c1]
      by_cases c2 : a = 2
      · rw [if_pos c2]
        refine Ev.step (f := fun _ => some (Op.bytesLess s.toList s2.toList)) (fun k => ?_) (ev_cast ?_ (Ev.now _))
        · simp only [spec_LessTerm.j0]; rw [if_neg hq2, if_pos c2]
        · cases hbl : Op.bytesLess s.toList s2.toList with
          | true => exact (decide_eq_true ((cB_neg _ _).2 hbl)).symm
          | false => exact (decide_eq_false (fun hc => by rw [(cB_neg _ _).1 hc] at hbl; cases hbl)).symm
      rw [if_neg c2]
      by_cases c4 : a = 4
      · rw [if_pos c4]
        refine Ev.step (f := fun k => (if (l.length : Int) = (l2.length : Int) then (spec_LessTerm.j1 k a b s l a2 b2 s2 l2) else (some (decide ((l.length : Int) < (l2.length : Int)))))) (fun k => ?_) ?_
        · simp only [spec_LessTerm.j0]; rw [if_neg hq2, if_neg c2, if_pos c4]
        · by_cases hn : l.length = l2.length
          · rw [if_pos hn]; exact ev_pos (by omega) hJ
          · rw [if_neg hn]; exact ev_neg (by omega) (ev_cast (by rw [decide_eq_decide, cI_neg]) (Ev.now _))
      rw [if_neg c4]
      have c5 : a = 5 := by
        rcases shape_cases hs with h | h | h | h
        · exact absurd (.inl h.1) c1
        · exact absurd h.1 c2
        · exact absurd (.inr h.1) c1
        · rcases h.1 with h | h
          · exact absurd h c4
          · exact h
      rw [if_pos c5]
      refine Ev.step (fun k => ?_) hJ
      simp only [spec_LessTerm.j0]; rw [if_neg hq2, if_neg c2, if_neg c4]
    by_cases c1 : a = 1
    · refine Ev.step (f := fun k => spec_LessTerm.j0 k true a b s l a2 b2 s2 l2) (fun k => ?_) (key _ (by simp; exact .inl c1))
      simp only [spec_LessTerm.f]; rw [if_pos h, if_pos c1]
    · refine Ev.step (f := fun k => spec_LessTerm.j0 k (a == 3) a b s l a2 b2 s2 l2) (fun k => ?_) (key _ (by rw [beq_iff_eq]; omega))
      simp only [spec_LessTerm.f]; rw [if_pos h, if_neg c1]
  · rw [if_neg h]
    refine Ev.step (f := fun _ => some (decide (a < a2))) (fun k => ?_) (ev_cast ?_ (Ev.now _))
    · simp only [spec_LessTerm.f]; rw [if_neg h]
    · rw [decide_eq_decide, cI_neg]
theorem impl_Same_loop (l m : List S26) (hl : (budIL l : Int) ≤ 4194304) (hm : l.length = m.length)
    (h : ∀ y ∈ l, ∀ z, Ev (fun k => impl_SameTerm.f k y.f0 y.f1 y.f2 y.f3 z.f0 z.f1 z.f2 z.f3) (sameM y z)) (d : Nat) : ∀ (i : Nat), i + d = l.length → Ev (fun k => slices_EqualFunc_of_impl_SameTerm.l0 k m l (l.length : Int) i) (sameML (l.drop i) (m.drop i)) := by
  have hlen := budIL_len l
  induction d with
  | zero =>
    intro i hi
    refine Ev.step (f := fun _ => some true) (fun k => ?_) (ev_cast ?_ (Ev.now _))
    · simp only [slices_EqualFunc_of_impl_SameTerm.l0]; rw [if_neg (by omega)]
    · rw [List.drop_eq_nil_of_le (by omega), List.drop_eq_nil_of_le (by omega)]; rfl
  | succ d ih =>
    intro i hi
    have hlt : i < l.length := by omega
    have e := h _ (rdI_mem l i hlt) (rd_T26 m i)
    have hn := ih (i + 1) (by omega)
    rw [dropI l i hlt, dropI m i (by omega), sameML]
    generalize hy : rd_T26 l i = y at *
    generalize hz : rd_T26 m i = z at *
    refine Ev.step (f := fun k => (impl_SameTerm.f k y.f0 y.f1 y.f2 y.f3 z.f0 z.f1 z.f2 z.f3).bind fun t => (if t = true then (slices_EqualFunc_of_impl_SameTerm.l0 k m l (l.length : Int) (wrap64 ((i : Int) + 1))) else (some false))) (fun k => ?_) (Ev.bind e ?_)
    · simp only [slices_EqualFunc_of_impl_SameTerm.l0]; rw [if_pos (by omega), if_pos (by omega), if_pos (by omega), if_pos (by omega), hy, hz]
    · rw [w64 _ (by omega) (by omega)]
      cases hs : sameM y z with
      | true => exact ev_pos rfl hn
      | false => exact ev_neg (by decide) (Ev.now _)
theorem impl_EqualFunc_of (l m : List S26) (hl : (budIL l : Int) ≤ 4194304)
    (h : ∀ y ∈ l, ∀ z, Ev (fun k => impl_SameTerm.f k y.f0 y.f1 y.f2 y.f3 z.f0 z.f1 z.f2 z.f3) (sameM y z)) : Ev (fun k => slices_EqualFunc_of_impl_SameTerm.f k l m) (sameML l m) := by
  by_cases h4 : l.length = m.length
  · refine Ev.step (fun k => ?_) (impl_Same_loop l m hl h4 h l.length 0 (by omega))
    simp only [slices_EqualFunc_of_impl_SameTerm.f]; rw [if_pos (by omega)]; rfl
  · refine Ev.step (f := fun _ => some false) (fun k => ?_) (ev_cast ?_ (Ev.now _))
    · simp only [slices_EqualFunc_of_impl_SameTerm.f]; rw [if_neg (by omega)]
    · cases hs : sameML l m with
      | true => exact absurd (sameML_len l m hs) h4
      | false => rfl
theorem impl_Same_all : ∀ x, (budI x : Int) ≤ 4194304 → ∀ z, Ev (fun k => impl_SameTerm.f k x.f0 x.f1 x.f2 x.f3 z.f0 z.f1 z.f2 z.f3) (sameM x z) := by
  refine indI ?_
  intro a b s l ih hb z
  rw [budI] at hb
  obtain ⟨a2, b2, s2, m⟩ := z
  have e := impl_EqualFunc_of l m (by omega) (fun y hy z => ih y hy (by have := budI_mem l y hy; omega) z)
  rw [sameM]
  simp only []
  by_cases h1 : a = a2
  · by_cases h2 : b = b2
    · by_cases h3 : s.toList = s2.toList
      · refine Ev.step (f := fun k => (slices_EqualFunc_of_impl_SameTerm.f k l m).bind fun t => some t) (fun k => ?_) (Ev.bind e (ev_cast ?_ (Ev.now _)))
        · simp only [impl_SameTerm.f]; rw [if_pos h1, if_pos h2, if_pos h3]
        · simp [h1, h2, h3]
      · refine Ev.step (f := fun _ => some false) (fun k => ?_) (ev_cast ?_ (Ev.now _))
        · simp only [impl_SameTerm.f]; rw [if_pos h1, if_pos h2, if_neg h3]
        · simp [h3]
    · refine Ev.step (f := fun _ => some false) (fun k => ?_) (ev_cast ?_ (Ev.now _))
      · simp only [impl_SameTerm.f]; rw [if_pos h1, if_neg h2]
      · simp [h2]
  · refine Ev.step (f := fun _ => some false) (fun k => ?_) (ev_cast ?_ (Ev.now _))
    · simp only [impl_SameTerm.f]; rw [if_neg h1]
    · simp [h1]
theorem FnOrder : laws_FnOrder.Pure := by
  intro l0 hl hl2 hw
  refine Ev.rounds (g := fun k => laws_FnOrder.f k l0) ?_
  unfold laws_FnOrder.f
  rw [laws_big_eq]
  by_cases hb : (l0.length : Int) > 1048576
  · refine Ev.bind (Ev.now _) (ev_pos (decide_eq_true hb) (Ev.now _))
  · refine Ev.bind (Ev.now _) (ev_neg (by simpa using hb) ?_)
    obtain ⟨x, y, z, ed, ⟨gx, bx⟩, ⟨gy, by'⟩, gz, bz⟩ := spec_DrawTerms_ev l0 (by omega)
    have exy := impl_LessTerm_ev x y (by omega)
    have eyx := impl_LessTerm_ev y x (by omega)
    have eyz := impl_LessTerm_ev y z (by omega)
    have exz := impl_LessTerm_ev x z (by omega)
    have es := impl_Same_all x (by omega) y
    have esp := spec_Less_all x 3 gx (by omega) y 3 gy
    have hs := same_cmp gx gy
    have ha := cmp_anti x y
    have ht := cmp_trans x 3 gx y 3 gy z 3 gz
    have last : ∀ q : Bool, (q = true → cmpM x y < 0) → Ev (fun k => laws_FnOrder.j0 k q false x.f0 x.f1 x.f2 x.f3 y.f0 y.f1 y.f2 y.f3 z.f0 z.f1 z.f2 z.f3) true := by
      intro q hq
      cases q with
      | false => exact Ev.step (f := fun _ => some true) (fun k => by simp only [laws_FnOrder.j0]; rw [if_neg (by decide), if_neg (by decide)]) (Ev.now _)
      | true =>
        refine Ev.step (f := fun k => (impl_LessTerm.f k y.f0 y.f1 y.f2 y.f3 z.f0 z.f1 z.f2 z.f3).bind fun t330 => (if t330 = true then ((impl_LessTerm.f k x.f0 x.f1 x.f2 x.f3 z.f0 z.f1 z.f2 z.f3).bind fun t331 => (some t331)) else (some true))) (fun k => by simp only [laws_FnOrder.j0]; rw [if_neg (by decide), if_pos trivial]) (Ev.bind eyz ?_)
        by_cases h2 : cmpM y z < 0
        · exact ev_pos (decide_eq_true h2) (Ev.bind exz (ev_cast (decide_eq_true (ht (hq rfl) h2)) (Ev.now _)))
        · exact ev_neg (by rw [decide_eq_false h2]; decide) (Ev.now _)
    refine Ev.bind ed (Ev.bind exy (Ev.bind eyx ?_))
    by_cases h1 : cmpM x y < 0
    · have hn : ¬ cmpM y x < 0 := by omega
      have hsf : sameM x y = false := by rw [hs]; exact decide_eq_false (by omega)
      rw [hsf] at es
      rw [decide_eq_true h1] at esp
      have e1 : decide (cmpM x y < 0) = true := decide_eq_true h1
      have e2 : decide (cmpM y x < 0) = false := decide_eq_false hn
      simp only [e1, e2]
      refine ev_pos trivial (ev_neg (by decide) (Ev.bind es (ev_neg (by decide) (Ev.bind esp ?_))))
      exact last true (fun _ => h1)
    · have e1 : decide (cmpM x y < 0) = false := decide_eq_false h1
      rw [e1] at esp
      by_cases h0 : cmpM x y = 0
      · have hst : sameM x y = true := by rw [hs]; exact decide_eq_true h0
        rw [hst] at es
        have e2 : decide (cmpM y x < 0) = false := decide_eq_false (by omega)
        simp only [e1, e2]
        refine ev_neg (by decide) (Ev.bind es (ev_neg (by decide) (Ev.bind esp ?_)))
        exact last false (fun h => by cases h)
      · have hst : sameM x y = false := by rw [hs]; exact decide_eq_false h0
        rw [hst] at es
        have e2 : decide (cmpM y x < 0) = true := decide_eq_true (by omega)
        simp only [e1, e2]
        refine ev_neg (by decide) (Ev.bind es (ev_neg (by decide) (Ev.bind esp ?_)))
        exact last false (fun h => by cases h)

end Go.Proofs.Ytjheomimogpifaa.Pure
