/- What the law FnAtoms of this seat says holds for every input that its row speaks of; no further condition. -/
import Derived.Test.YtboiagjicjgceaaQFnAtomsx7
import Derived.Lib.Strings
set_option linter.unusedVariables false
set_option linter.unusedSimpArgs false
namespace Go.Proofs.Ytboiagjicjgceaa.Pure
open Go.RowKit Go.Proofs.Ytboiagjicjgceaa.QFnAtoms Go.Proofs.YtboiagjicjgceaaW.PrintWords Go.Proofs.YtboiagjicjgceaaW.PrintLast Go.Proofs.YtboiagjicjgceaaW.PrintMore

theorem ev_pos {α : Type} {c : Prop} [Decidable c] {A B : Nat → Option α} {r : α} (h : c) (e : Ev A r) : Ev (fun k => if c then A k else B k) r := by
  obtain ⟨K, hK⟩ := e
  exact ⟨K, fun k hk => by simp only [if_pos h]; exact hK k hk⟩
theorem ev_neg {α : Type} {c : Prop} [Decidable c] {A B : Nat → Option α} {r : α} (h : ¬ c) (e : Ev B r) : Ev (fun k => if c then A k else B k) r := by
  obtain ⟨K, hK⟩ := e
  exact ⟨K, fun k hk => by simp only [if_neg h]; exact hK k hk⟩
theorem ev_of {α : Type} {o : Option α} {r : α} (h : o = some r) : Ev (fun _ => o) r := ⟨0, fun _ _ => h⟩
theorem ev_cast {α : Type} {g : Nat → Option α} {r r' : α} (h : r = r') (e : Ev g r) : Ev g r' := h ▸ e
theorem w64 (n : Int) (h0 : -9223372036854775808 ≤ n) (h1 : n ≤ 9223372036854775807) : wrap64 n = n := by unfold wrap64; omega
theorem laws_big_eq (l : List Int) : laws_big.f l = some (decide ((l.length : Int) > 1048576)) := rfl
theorem hk63 (n : Int) (h0 : 0 ≤ n) (h1 : n < 2 ^ 63) : IntKind.i64.wrap n = n := by
  rw [IntKind.wrap_i64]; omega
def Cur (b : List Int) (i : Int) : Prop := 0 ≤ i ∧ i ≤ b.length ∧ (b.length : Int) ≤ 1048576
theorem and255 (x : Int) : 0 ≤ Go.bits .and .i64 x 255 ∧ Go.bits .and .i64 x 255 ≤ 255 := by
  have h : Go.bits .and .i64 x 255 = IntKind.i64.wrap (((BitVec.ofInt 64 x) &&& (BitVec.ofInt 64 255)).toNat : Int) := rfl
  have h2 : ((BitVec.ofInt 64 x) &&& (BitVec.ofInt 64 255)).toNat ≤ 255 := by
    rw [BitVec.toNat_and]
    exact Nat.and_le_right
  rw [h, hk63 _ (by omega) (by omega)]
  omega
theorem spec_l1Byte_eq (b : List Int) (i h : Int) (hc : Cur b i) : ∃ v i2 h2, spec_l1Byte.f b i h = some (v, i2, h2) ∧ 0 ≤ v ∧ v ≤ 255 ∧ Cur b i2 := by
  unfold spec_l1Byte.f
  obtain ⟨h0, h1, h2⟩ := hc
  by_cases hi : i < (b.length : Int)
  · rw [if_pos hi, if_pos h0, w64 (i + 1) (by omega) (by omega)]
    exact ⟨_, _, _, rfl, (and255 _).1, (and255 _).2, by omega, by omega, h2⟩
  · rw [if_neg hi]
    exact ⟨_, _, _, rfl, (and255 _).1, (and255 _).2, h0, h1, h2⟩
theorem spec_l1Below_eq (b : List Int) (i h n : Int) (hc : Cur b i) : ∃ v i2 h2, spec_l1Below.f b i h n = some (v, i2, h2) ∧ 0 ≤ v ∧ (0 < n → v < n) ∧ (n ≤ 0 → v = 0) ∧ Cur b i2 := by
  unfold spec_l1Below.f
  by_cases h0 : n ≤ 0
  · rw [if_pos h0]
    exact ⟨0, i, h, rfl, by omega, by omega, fun _ => rfl, hc⟩
  rw [if_neg h0]
  by_cases h1 : n ≤ 256
  · rw [if_pos h1]
    obtain ⟨v, i2, h2, e, v0, v1, c2⟩ := spec_l1Byte_eq b i h hc
    rw [e]
    simp only [Option.bind_some]
    rw [if_neg (by omega)]
    refine ⟨_, _, _, rfl, ?_, fun _ => ?_, by omega, c2⟩
    · rw [Int.tmod_eq_emod_of_nonneg v0]; exact Int.emod_nonneg _ (by omega)
    · rw [Int.tmod_eq_emod_of_nonneg v0]; exact Int.emod_lt_of_pos _ (by omega)
  · rw [if_neg h1]
    obtain ⟨x, i2, h2, e, x0, x1, c2⟩ := spec_l1Byte_eq b i h hc
    rw [e]
    simp only [Option.bind_some]
    obtain ⟨y, i3, h3, e3, y0, y1, c3⟩ := spec_l1Byte_eq b i2 h2 c2
    rw [e3]
    simp only [Option.bind_some]
    obtain ⟨z, i4, h4, e4, z0, z1, c4⟩ := spec_l1Byte_eq b i3 h3 c3
    rw [e4]
    simp only [Option.bind_some]
    rw [if_neg (by omega), w64 (x * 65536) (by omega) (by omega), w64 (y * 256) (by omega) (by omega), w64 (x * 65536 + y * 256) (by omega) (by omega), w64 (x * 65536 + y * 256 + z) (by omega) (by omega)]
    refine ⟨_, _, _, rfl, ?_, fun _ => ?_, by omega, c4⟩
    · rw [Int.tmod_eq_emod_of_nonneg (by omega)]; exact Int.emod_nonneg _ (by omega)
    · rw [Int.tmod_eq_emod_of_nonneg (by omega)]; exact Int.emod_lt_of_pos _ (by omega)
theorem spec_l1Str_eq (b : List Int) (i h : Int) (l : List ByteArray) (hl : 0 < l.length) (hc : Cur b i) : ∃ v i2 h2, spec_l1Str.f b i h l = some (v, i2, h2) ∧ v ∈ l ∧ Cur b i2 := by
  unfold spec_l1Str.f
  obtain ⟨v, i2, h2, e, v0, v1, _, c2⟩ := spec_l1Below_eq b i h l.length hc
  rw [e]
  simp only [Option.bind_some]
  have v2 := v1 (by omega)
  rw [if_pos v0, if_pos v2]
  refine ⟨_, _, _, rfl, ?_, c2⟩
  unfold rdOf
  have hv : v.toNat < l.length := by omega
  simp [List.getD_eq_getElem?_getD, List.getElem?_eq_getElem hv]
theorem spec_l1New_l (l : List Int) (hl : (l.length : Int) ≤ 1048576) (d : Nat) : ∀ (i : Nat) (h : Int), i + d = l.length → ∃ h2, Ev (fun k => spec_l1New.l0 k l h i) (l, 0, h2) := by
  induction d with
  | zero =>
    intro i h hi
    refine ⟨h, Ev.step (f := fun _ => some (l, 0, h)) (fun k => ?_) (Ev.now _)⟩
    simp only [spec_l1New.l0]; rw [if_neg (by omega)]
  | succ d ih =>
    intro i h hi
    by_cases h4 : (i : Int) < 4000
    · obtain ⟨h2, e⟩ := ih (i + 1) (Go.bits .and .i64 (wrap64 ((wrap64 ((wrap64 (h * 137)) + (wrap64 (rd l i)))) + 11)) 1073741823) (by omega)
      refine ⟨h2, Ev.step (fun k => ?_) e⟩
      simp only [spec_l1New.l0]; rw [if_pos (by omega), if_pos h4, if_pos (by omega), w64 ((i : Int) + 1) (by omega) (by omega)]
      rfl
    · refine ⟨h, Ev.step (f := fun _ => some (l, 0, h)) (fun k => ?_) (Ev.now _)⟩
      simp only [spec_l1New.l0]; rw [if_pos (by omega), if_neg h4]
theorem spec_l1New_ev (l : List Int) (hl : (l.length : Int) ≤ 1048576) : ∃ h, Ev (fun k => spec_l1New.f k l) (l, 0, h) := spec_l1New_l l hl l.length 0 _ (by omega)
def lowB (c : Int) : Bool := decide (97 ≤ c) && decide (c ≤ 122)
def digB (c : Int) : Bool := decide (48 ≤ c) && decide (c ≤ 57)
def atomFrom (s : ByteArray) (i : Nat) : Bool := (List.range' i (s.size - i)).all fun j => lowB (bt s j) || (!decide (j = 0) && (digB (bt s j) || decide (bt s j = 95)))
def atomOkM (s : ByteArray) : Bool := atomFrom s 0 && (decide (1 ≤ (s.size : Int)) && decide ((s.size : Int) ≤ 20))
theorem atomFrom_end (s : ByteArray) (i : Nat) (h : s.size ≤ i) : atomFrom s i = true := by
  unfold atomFrom
  rw [Nat.sub_eq_zero_of_le h]; rfl
theorem atomFrom_step (s : ByteArray) (i : Nat) (h : i < s.size) : atomFrom s i = ((lowB (bt s i) || (!decide (i = 0) && (digB (bt s i) || decide (bt s i = 95)))) && atomFrom s (i + 1)) := by
  unfold atomFrom
  obtain ⟨n, hn⟩ : ∃ n, s.size - i = n + 1 := ⟨s.size - i - 1, by omega⟩
  rw [hn, show s.size - (i + 1) = n from by omega, List.range'_succ]
  simp [List.all_cons]
theorem wbt (s : ByteArray) (i : Int) : wrap64 (bt s i) = bt s i := by
  have := bt_range s i
  exact w64 _ (by omega) (by omega)
theorem impl_inRange_eq (a b c : Int) : impl_inRange.f a b c = some (decide (b ≤ a) && decide (a ≤ c)) := by
  unfold impl_inRange.f
  by_cases h : b ≤ a <;> simp [h]
theorem impl_isSmall_eq (c : Int) : impl_isSmall.f c = some (lowB c) := by
  unfold impl_isSmall.f lowB
  by_cases h : 97 ≤ c <;> simp [h]
theorem impl_isFigure_eq (c : Int) : impl_isFigure.f c = some (digB c) := by
  unfold impl_isFigure.f digB
  by_cases h : 48 ≤ c <;> simp [h]
theorem impl_AtomOk_l (s : ByteArray) (hs : s.size ≤ 140737488351232) (d : Nat) : ∀ i : Nat, i + d = s.size → Ev (fun k => impl_AtomOk.l0 k s i) (atomFrom s i && (decide (1 ≤ (s.size : Int)) && decide ((s.size : Int) ≤ 20))) := by
  induction d with
  | zero =>
    intro i hi
    refine Ev.step (f := fun _ => some (decide (1 ≤ (s.size : Int)) && decide ((s.size : Int) ≤ 20))) (fun k => ?_) (ev_cast ?_ (Ev.now _))
    · simp only [impl_AtomOk.l0]
      rw [if_neg (by omega), impl_inRange_eq]; rfl
    · rw [atomFrom_end s i (by omega)]; rfl
  | succ d ih =>
    intro i hi
    have hlt : i < s.size := by omega
    have hn := ih (i + 1) (by omega)
    rw [atomFrom_step s i hlt]
    by_cases h1 : lowB (bt s i) = true
    · refine Ev.step (fun k => ?_) (ev_cast ?_ hn)
      · simp only [impl_AtomOk.l0]
        rw [if_pos (by omega), if_pos (by omega), impl_isSmall_eq]
        simp only [Option.bind_some]
        rw [if_pos h1, w64 _ (by omega) (by omega)]
        rfl
      · rw [h1]; rfl
    · have h1' : lowB (bt s i) = false := by simpa using h1
      by_cases h0 : i = 0
      · refine Ev.step (f := fun _ => some false) (fun k => ?_) (ev_cast ?_ (Ev.now _))
        · simp only [impl_AtomOk.l0]
          rw [if_pos (by omega), if_pos (by omega), impl_isSmall_eq]
          simp only [Option.bind_some]
          rw [if_neg h1, if_pos (by omega)]
        · rw [h1']; simp [h0]
      · by_cases h2 : digB (bt s i) = true
        · refine Ev.step (fun k => ?_) (ev_cast ?_ hn)
          · simp only [impl_AtomOk.l0]
            rw [if_pos (by omega), if_pos (by omega), impl_isSmall_eq]
            simp only [Option.bind_some]
            rw [if_neg h1, if_neg (by omega), impl_isFigure_eq]
            simp only [Option.bind_some]
            rw [if_pos h2, w64 _ (by omega) (by omega)]
            rfl
          · rw [h2]; simp [h0]
        · have h2' : digB (bt s i) = false := by simpa using h2
          by_cases h3 : bt s i = 95
          · refine Ev.step (fun k => ?_) (ev_cast ?_ hn)
            · simp only [impl_AtomOk.l0]
              rw [if_pos (by omega), if_pos (by omega), impl_isSmall_eq]
              simp only [Option.bind_some]
              rw [if_neg h1, if_neg (by omega), impl_isFigure_eq]
              simp only [Option.bind_some]
              rw [if_neg h2, if_pos h3, w64 _ (by omega) (by omega)]
              rfl
            · simp [h0, h3]
          · refine Ev.step (f := fun _ => some false) (fun k => ?_) (ev_cast ?_ (Ev.now _))
            · simp only [impl_AtomOk.l0]
              rw [if_pos (by omega), if_pos (by omega), impl_isSmall_eq]
              simp only [Option.bind_some]
              rw [if_neg h1, if_neg (by omega), impl_isFigure_eq]
              simp only [Option.bind_some]
              rw [if_neg h2, if_neg h3]
            · rw [h1', h2']; simp [h3]
theorem impl_AtomOk_ev (s : ByteArray) (hs : s.size ≤ 140737488351232) : Ev (fun k => impl_AtomOk.f k s) (atomOkM s) := impl_AtomOk_l s hs s.size 0 (by omega)
theorem spec_l1In_eq (a b c : Int) : spec_l1In.f a b c = some (decide (b ≤ a) && decide (a ≤ c)) := by
  unfold spec_l1In.f
  by_cases h : b ≤ a <;> simp [h]
theorem spec_AtomOk_l (s : ByteArray) (hs : s.size ≤ 140737488351232) (d : Nat) : ∀ i : Nat, i + d = s.size → Ev (fun k => spec_AtomOk.l0 k s i) (atomFrom s i && (decide (1 ≤ (s.size : Int)) && decide ((s.size : Int) ≤ 20))) := by
  induction d with
  | zero =>
    intro i hi
    refine Ev.step (f := fun _ => some (decide (1 ≤ (s.size : Int)) && decide ((s.size : Int) ≤ 20))) (fun k => ?_) (ev_cast ?_ (Ev.now _))
    · simp only [spec_AtomOk.l0]
      rw [if_neg (by omega), spec_l1In_eq]; rfl
    · rw [atomFrom_end s i (by omega)]; rfl
  | succ d ih =>
    intro i hi
    have hlt : i < s.size := by omega
    have hn := ih (i + 1) (by omega)
    rw [atomFrom_step s i hlt]
    by_cases h1 : lowB (bt s i) = true
    · refine Ev.step (fun k => ?_) (ev_cast ?_ hn)
      · simp only [spec_AtomOk.l0]
        rw [if_pos (by omega), if_pos (by omega), wbt, spec_l1In_eq]
        simp only [Option.bind_some]
        unfold lowB at h1
        rw [if_pos h1, w64 _ (by omega) (by omega)]
        rfl
      · rw [h1]; rfl
    · have h1' : lowB (bt s i) = false := by simpa using h1
      by_cases h0 : i = 0
      · refine Ev.step (f := fun _ => some false) (fun k => ?_) (ev_cast ?_ (Ev.now _))
        · simp only [spec_AtomOk.l0]
          rw [if_pos (by omega), if_pos (by omega), wbt, spec_l1In_eq]
          simp only [Option.bind_some]
          unfold lowB at h1
          rw [if_neg h1, if_pos (by omega)]
        · rw [h1']; simp [h0]
      · by_cases h2 : digB (bt s i) = true
        · refine Ev.step (fun k => ?_) (ev_cast ?_ hn)
          · simp only [spec_AtomOk.l0]
            rw [if_pos (by omega), if_pos (by omega), wbt, spec_l1In_eq]
            simp only [Option.bind_some]
            unfold lowB at h1; unfold digB at h2
            rw [if_neg h1, if_neg (by omega), spec_l1In_eq]
            simp only [Option.bind_some]
            rw [if_pos h2, w64 _ (by omega) (by omega)]
            rfl
          · rw [h2]; simp [h0]
        · have h2' : digB (bt s i) = false := by simpa using h2
          by_cases h3 : bt s i = 95
          · refine Ev.step (fun k => ?_) (ev_cast ?_ hn)
            · simp only [spec_AtomOk.l0]
              rw [if_pos (by omega), if_pos (by omega), wbt, spec_l1In_eq]
              simp only [Option.bind_some]
              unfold lowB at h1; unfold digB at h2
              rw [if_neg h1, if_neg (by omega), spec_l1In_eq]
              simp only [Option.bind_some]
              rw [if_neg h2, if_pos h3, w64 _ (by omega) (by omega)]
              rfl
            · simp [h0, h3]
          · refine Ev.step (f := fun _ => some false) (fun k => ?_) (ev_cast ?_ (Ev.now _))
            · simp only [spec_AtomOk.l0]
              rw [if_pos (by omega), if_pos (by omega), wbt, spec_l1In_eq]
              simp only [Option.bind_some]
              unfold lowB at h1; unfold digB at h2
              rw [if_neg h1, if_neg (by omega), spec_l1In_eq]
              simp only [Option.bind_some]
              rw [if_neg h2, if_neg h3]
            · rw [h1', h2']; simp [h3]
theorem spec_AtomOk_ev (s : ByteArray) (hs : s.size ≤ 140737488351232) : Ev (fun k => spec_AtomOk.f k s) (atomOkM s) := spec_AtomOk_l s hs s.size 0 (by omega)
theorem indI {P : S29 → Prop} (h : ∀ a b s l, (∀ y ∈ l, P y) → P ⟨a, b, s, l⟩) : ∀ x, P x := by
  intro x
  refine S29.rec (motive_1 := P) (motive_2 := fun l => ∀ y ∈ l, P y) ?_ ?_ ?_ x
  · intro a b s l hl
    exact h a b s l hl
  · intro y hy; cases hy
  · intro x r hx hr y hy
    rcases List.mem_cons.1 hy with rfl | hy
    · exact hx
    · exact hr y hy
mutual
def budI : S29 → Nat
  | ⟨_, _, s, l⟩ => s.size + budIL l
def budIL : List S29 → Nat
  | [] => 0
  | x :: r => 1 + budI x + budIL r
end
theorem budIL_len : ∀ l : List S29, l.length ≤ budIL l
  | [] => by simp [budIL]
  | x :: r => by
    have := budIL_len r
    rw [budIL, List.length_cons]; omega
theorem rdI_mem (l : List S29) (i : Nat) (h : i < l.length) : rd_T29 l i ∈ l := by
  unfold rd_T29
  simp [List.getD_eq_getElem?_getD, List.getElem?_eq_getElem h]
theorem dropI (l : List S29) (i : Nat) (h : i < l.length) : l.drop i = rd_T29 l i :: l.drop (i + 1) := by
  rw [List.drop_eq_getElem_cons h]
  unfold rd_T29
  simp [List.getElem?_eq_getElem h]
theorem budI_mem : ∀ (l : List S29) (x : S29), x ∈ l → budI x + 1 ≤ budIL l
  | [], x, h => by cases h
  | y :: r, x, h => by
    rw [budIL]
    rcases List.mem_cons.1 h with rfl | h
    · omega
    · have := budI_mem r x h; omega
mutual
def countM : S29 → Nat
  | ⟨_, _, _, l⟩ => 1 + countML l
def countML : List S29 → Nat
  | [] => 0
  | x :: r => countM x + countML r
end
def noText (s : ByteArray) : Bool := decide (s.toList = ([] : List UInt8))
def shapeM (a b : Int) (s : ByteArray) (l : List S29) : Bool :=
  if a = 1 then (decide (-1000000000000 ≤ b) && decide (b ≤ 1000000000000)) && (noText s && ((l.length : Int) == 0))
  else if a = 2 then atomOkM s && (decide (b = 0) && ((l.length : Int) == 0))
  else if a = 3 then (decide (0 ≤ b) && decide (b ≤ 1000000)) && (noText s && ((l.length : Int) == 0))
  else if a = 4 then decide (b = 0) && (noText s && decide ((l.length : Int) ≤ 20))
  else if a = 5 then decide (b = 0) && (noText s && decide ((l.length : Int) ≤ 60))
  else false
mutual
def goodM : S29 → Nat → Bool
  | ⟨a, b, s, l⟩, n => match n with
    | 0 => false
    | n + 1 => shapeM a b s l && goodML l n
def goodML : List S29 → Nat → Bool
  | [], _ => true
  | x :: r, n => goodM x n && goodML r n
end
def termOkM (x : S29) : Bool := goodM x 8 && decide (countM x ≤ 300)
theorem impl_plainOk_ev (a b : Int) (s : ByteArray) (l : List S29) (hs : s.size ≤ 140737488351232) : Ev (fun k => impl_Term_plainOk.f k a b s l) (shapeM a b s l) := by
  unfold impl_Term_plainOk.f shapeM noText
  by_cases h1 : a = 1
  · rw [if_pos h1]
    refine ev_pos h1 (ev_of ?_)
    rw [impl_inRange_eq]
    simp only [Option.bind_some]
    by_cases p : (decide (-1000000000000 ≤ b) && decide (b ≤ 1000000000000)) = true
    · by_cases q : s.toList = ([] : List UInt8)
      · rw [if_pos p, if_pos q, p, decide_eq_true q]; rfl
      · rw [if_pos p, if_neg q, p, decide_eq_false q]; rfl
    · rw [if_neg p, Bool.eq_false_iff.mpr p]; rfl
  rw [if_neg h1]
  refine ev_neg h1 ?_
  by_cases h2 : a = 2
  · rw [if_pos h2]
    refine ev_pos h2 ?_
    by_cases q : b = 0
    · refine ev_pos q (Ev.bind (impl_AtomOk_ev s hs) ?_)
      cases hA : atomOkM s with
      | true => exact ev_pos rfl (ev_cast (by rw [decide_eq_true q]; rfl) (Ev.now _))
      | false => exact ev_neg (by decide) (Ev.now _)
    · exact ev_neg q (ev_cast (by rw [decide_eq_false q]; simp) (Ev.now _))
  rw [if_neg h2]
  refine ev_neg h2 (ev_of ?_)
  by_cases h3 : a = 3
  · rw [if_pos h3, if_pos h3, impl_inRange_eq]
    simp only [Option.bind_some]
    by_cases p : (decide (0 ≤ b) && decide (b ≤ 1000000)) = true
    · by_cases q : s.toList = ([] : List UInt8)
      · rw [if_pos p, if_pos q, p, decide_eq_true q]; rfl
      · rw [if_pos p, if_neg q, p, decide_eq_false q]; rfl
    · rw [if_neg p, Bool.eq_false_iff.mpr p]; rfl
  rw [if_neg h3, if_neg h3]
  by_cases h4 : a = 4
  · rw [if_pos h4, if_pos h4]
    by_cases p : b = 0
    · by_cases q : s.toList = ([] : List UInt8)
      · rw [if_pos p, if_pos q, decide_eq_true p, decide_eq_true q]; rfl
      · rw [if_pos p, if_neg q, decide_eq_true p, decide_eq_false q]; rfl
    · rw [if_neg p, decide_eq_false p]; rfl
  rw [if_neg h4, if_neg h4]
  by_cases h5 : a = 5
  · rw [if_pos h5, if_pos h5]
    by_cases p : b = 0
    · by_cases q : s.toList = ([] : List UInt8)
      · rw [if_pos p, if_pos q, decide_eq_true p, decide_eq_true q]; rfl
      · rw [if_pos p, if_neg q, decide_eq_true p, decide_eq_false q]; rfl
    · rw [if_neg p, decide_eq_false p]; rfl
  · rw [if_neg h5, if_neg h5]
def measRes (n0 : Nat) (g : Bool) (c : Nat) : Int := if g = true ∧ n0 + c ≤ 300 then ((n0 + c : Nat) : Int) else 301
theorem impl_measure_loop (l : List S29) (hl : (budIL l : Int) ≤ 4194304) (n : Nat) (dp : Int) (hd : dp + n = 8) (hd1 : 1 ≤ dp)
    (h : ∀ y ∈ l, Ev (fun k => impl_Term_measure.f k y.f0 y.f1 y.f2 y.f3 (dp + 1)) (measRes 0 (goodM y n) (countM y))) (d : Nat) :
    ∀ (i : Nat) (m : Nat), i + d = l.length → m ≤ 300 → Ev (fun k => impl_Term_measure.l0 k dp m l (l.length : Int) i) (measRes m (goodML (l.drop i) n) (countML (l.drop i))) := by
  have hlen := budIL_len l
  induction d with
  | zero =>
    intro i m hi hm
    refine Ev.step (f := fun _ => some (m : Int)) (fun k => ?_) (ev_cast ?_ (Ev.now _))
    · simp only [impl_Term_measure.l0]; rw [if_neg (by omega)]
    · rw [List.drop_eq_nil_of_le (by omega), goodML, countML]
      unfold measRes; rw [if_pos ⟨rfl, by omega⟩]; rfl
  | succ d ih =>
    intro i m hi hm
    have hlt : i < l.length := by omega
    have e := h _ (rdI_mem l i hlt)
    rw [dropI l i hlt, goodML, countML]
    generalize hy : rd_T29 l i = y at *
    refine Ev.step (f := fun k => (impl_Term_measure.f k y.f0 y.f1 y.f2 y.f3 (dp + 1)).bind fun t => (if (wrap64 ((m : Int) + t)) > 300 then (some 301) else (impl_Term_measure.l0 k dp (wrap64 ((m : Int) + t)) l (l.length : Int) (wrap64 ((i : Int) + 1))))) (fun k => ?_) (Ev.bind e ?_)
    · simp only [impl_Term_measure.l0]; rw [if_pos (by omega), if_pos (by omega), if_pos (by omega), hy, w64 (dp + 1) (by omega) (by omega)]
    · have hr : 0 ≤ measRes 0 (goodM y n) (countM y) ∧ measRes 0 (goodM y n) (countM y) ≤ 301 := by
        unfold measRes; split <;> omega
      rw [w64 _ (by omega) (by omega), w64 _ (by omega) (by omega)]
      cases hg : goodM y n with
      | false =>
        refine ev_pos (by unfold measRes; simp; omega) (ev_cast ?_ (Ev.now _))
        unfold measRes; simp
      | true =>
        by_cases hq : countM y ≤ 300
        · have hv : measRes 0 true (countM y) = countM y := by unfold measRes; rw [if_pos ⟨rfl, by omega⟩]; omega
          rw [hv]
          by_cases hq2 : (m : Int) + countM y > 300
          · refine ev_pos hq2 (ev_cast ?_ (Ev.now _))
            unfold measRes; rw [if_neg (by omega)]
          · refine ev_neg hq2 ?_
            have := ih (i + 1) (m + countM y) (by omega) (by omega)
            rw [show ((m + countM y : Nat) : Int) = (m : Int) + countM y from by omega] at this
            refine ev_cast ?_ this
            unfold measRes
            rw [Bool.true_and]
            cases goodML (l.drop (i + 1)) n with
            | false => simp
            | true =>
              by_cases hq3 : m + countM y + countML (l.drop (i + 1)) ≤ 300
              · rw [if_pos ⟨rfl, hq3⟩, if_pos ⟨rfl, by omega⟩]; omega
              · rw [if_neg (by omega), if_neg (by omega)]
        · have hv : measRes 0 true (countM y) = 301 := by unfold measRes; rw [if_neg (by omega)]
          rw [hv]
          refine ev_pos (by omega) (ev_cast ?_ (Ev.now _))
          unfold measRes; rw [if_neg (by omega)]
theorem impl_measure_all : ∀ x, (budI x : Int) ≤ 4194304 → ∀ (n : Nat) (dp : Int), dp + n = 9 → 1 ≤ dp → Ev (fun k => impl_Term_measure.f k x.f0 x.f1 x.f2 x.f3 dp) (measRes 0 (goodM x n) (countM x)) := by
  refine indI ?_
  intro a b s l ih hb n dp hd h1
  rw [budI] at hb
  simp only []
  have no : Ev (fun k => impl_Term_measure.j0 k dp true a b s l) 301 := Ev.step (f := fun _ => some 301) (fun k => by simp [impl_Term_measure.j0]) (Ev.now _)
  cases n with
  | zero =>
    refine Ev.step (fun k => ?_) (ev_cast ?_ no)
    · simp only [impl_Term_measure.f]; rw [if_pos (by omega)]
    · rw [goodM]; unfold measRes; simp
  | succ n =>
    rw [goodM, countM]
    refine Ev.step (f := fun k => (impl_Term_plainOk.f k a b s l).bind fun t => (impl_Term_measure.j0 k dp (!t) a b s l)) (fun k => ?_) (Ev.bind (impl_plainOk_ev a b s l (by omega)) ?_)
    · simp only [impl_Term_measure.f]; rw [if_neg (by omega)]
    cases hsh : shapeM a b s l with
    | false => exact ev_cast (by unfold measRes; simp) no
    | true =>
      have e := impl_measure_loop l (by omega) n dp (by omega) h1 (fun y hy => ih y hy (by have := budI_mem l y hy; omega) n (dp + 1) (by omega) (by omega)) l.length 0 1 (by omega) (by omega)
      refine Ev.step (fun k => ?_) (ev_cast ?_ e)
      · simp only [impl_Term_measure.j0]; rw [if_neg (by decide)]; rfl
      · rw [List.drop_zero, Bool.true_and]
        unfold measRes
        rw [Nat.zero_add]
theorem impl_TermOk_ev (x : S29) (hb : (budI x : Int) ≤ 4194304) : Ev (fun k => impl_TermOk.f k x.f0 x.f1 x.f2 x.f3) (termOkM x) := by
  unfold impl_TermOk.f
  refine Ev.bind (impl_measure_all x hb 8 1 (by omega) (by omega)) (ev_cast ?_ (Ev.now _))
  unfold termOkM measRes
  cases goodM x 8 with
  | false => simp
  | true =>
    by_cases hq : countM x ≤ 300
    · rw [if_pos ⟨rfl, by omega⟩, decide_eq_true hq]; simp; omega
    · rw [if_neg (by omega), decide_eq_false hq]; rfl
def allFrom (p : Nat → Bool) (i d : Nat) : Bool := (List.range' i d).all p
theorem tlx (s : ByteArray) (n : Nat) : (s.extract 0 n).data.toList = s.data.toList.take n := by
  simp [ByteArray.data_extract, Array.toList_extract, List.extract]
theorem size_len (s : ByteArray) : s.size = s.data.toList.length := by
  rw [Array.length_toList]; rfl
theorem bt0 (s : ByteArray) (c : UInt8) (l : List UInt8) (h : s.data.toList = c :: l) : (bt s 0).toNat.toUInt8 = c := by
  have h0 : 0 < s.size := by rw [size_len, h]; simp
  have := bt_at s 0 (by simpa using h0)
  rw [← this]
  have e : s[(0 : Int).toNat]'(by simpa using h0) = c := by
    have q : s.data.toList[0]'(by rw [h]; simp) = c := by simp [h]
    rw [← q]
    rfl
  rw [e]
  simp
def largeB (c : Int) : Bool := (decide (65 ≤ c) && decide (c ≤ 90)) || decide (c = 95)
def varP (s : ByteArray) (i : Nat) : Bool := largeB (bt s i) || (!decide (i = 0) && (lowB (bt s i) || digB (bt s i)))
def varQ (s : ByteArray) (i : Nat) : Bool := lowB (bt s i) || (largeB (bt s i) || digB (bt s i))
def in20 (s : ByteArray) : Bool := decide (1 ≤ (s.size : Int)) && decide ((s.size : Int) ≤ 20)
def varOkM (s : ByteArray) : Bool := allFrom (varP s) 0 s.size && in20 s
theorem allFrom_iff (p : Nat → Bool) (n : Nat) : allFrom p 0 n = true ↔ ∀ i, i < n → p i = true := by
  unfold allFrom
  rw [List.all_eq_true]
  constructor
  · intro h i hi
    exact h i (by rw [List.mem_range'_1]; omega)
  · intro h i hi
    rw [List.mem_range'_1] at hi
    exact h i (by omega)
theorem varOk_same (s : ByteArray) : (allFrom (varQ s) 0 s.size && (in20 s && largeB (bt s 0))) = varOkM s := by
  unfold varOkM
  cases hn : in20 s with
  | false => simp
  | true =>
    rw [Bool.true_and, Bool.and_true, Bool.eq_iff_iff, Bool.and_eq_true, allFrom_iff, allFrom_iff]
    unfold in20 at hn
    rw [Bool.and_eq_true, decide_eq_true_eq, decide_eq_true_eq] at hn
    constructor
    · rintro ⟨h, h0⟩ i hi
      have := h i hi
      unfold varQ at this
      unfold varP
      by_cases hz : i = 0
      · subst hz
        rw [show ((0 : Nat) : Int) = 0 from rfl, h0]; rfl
      · rw [decide_eq_false hz]
        revert this
        cases lowB (bt s i) <;> cases largeB (bt s i) <;> cases digB (bt s i) <;> simp
    · intro h
      refine ⟨fun i hi => ?_, ?_⟩
      · have := h i hi
        unfold varP at this
        unfold varQ
        revert this
        cases lowB (bt s i) <;> cases largeB (bt s i) <;> cases digB (bt s i) <;> simp
      · have := h 0 (by omega)
        unfold varP at this
        simpa using this
theorem all_loopB (L : Nat → Int → Option Bool) (p : Nat → Bool) (n : Nat) (b : Bool)
    (hstep : ∀ (i : Nat), i < n → ∀ r, (p i = true → Ev (fun k => L k ((i + 1 : Nat) : Int)) r) → (p i = false → r = false) → Ev (fun k => L k (i : Int)) r)
    (hend : Ev (fun k => L k (n : Int)) b) (d : Nat) : ∀ i : Nat, i + d = n → Ev (fun k => L k (i : Int)) (allFrom p i d && b) := by
  induction d with
  | zero =>
    intro i hi
    have e : i = n := by omega
    subst e
    exact ev_cast (by unfold allFrom; simp) hend
  | succ d ih =>
    intro i hi
    refine hstep i (by omega) _ (fun hp => ?_) (fun hp => ?_)
    · refine ev_cast ?_ (ih (i + 1) (by omega))
      unfold allFrom
      rw [List.range'_succ, List.all_cons, hp, Bool.true_and]
    · unfold allFrom
      rw [List.range'_succ, List.all_cons, hp, Bool.false_and, Bool.false_and]
theorem ixb (l : List UInt8) (c : UInt8) : (Go.Lib.indexByte l c ≥ 0) ↔ c ∈ l := by
  induction l with
  | nil => simp [Go.Lib.indexByte]
  | cons b l ih =>
    have := Go.Lib.indexByte_ge l c
    unfold Go.Lib.indexByte
    by_cases h : b = c
    · simp [h]
    · have h2 : ¬ c = b := fun e => h e.symm
      simp only [beq_iff_eq, h, if_false, List.mem_cons, h2, false_or]
      rw [← ih]
      split <;> omega
def onesL : List UInt8 := [40, 41, 123, 125, 91, 93, 44, 46, 59, 124, 60, 43, 45, 42]
def markOkL (l : List UInt8) : Bool := decide (l = [45, 62]) || (decide (l = [61, 61]) || onesL.any (fun c => decide (l = [c])))
def tokOkM (a b : Int) (s : ByteArray) : Bool :=
  if a = 1 then (decide (0 ≤ b) && decide (b ≤ 1000000000000)) && decide (s.data.toList = [])
  else if a = 2 then atomOkM s && decide (b = 0)
  else if a = 3 then varOkM s && decide (b = 0)
  else if a = 4 then markOkL s.data.toList && decide (b = 0)
  else false
theorem empty_beq (s : ByteArray) : (s.toList == ([] : List UInt8)) = decide (s.data.toList = []) := by
  rw [Go.Lib.toList_data, Bool.eq_iff_iff, beq_iff_eq, decide_eq_true_eq]
theorem impl_isLarge_eq (c : Int) : impl_isLarge.f c = some (largeB c) := by
  unfold impl_isLarge.f largeB
  by_cases h : c ≥ 65
  · rw [if_pos h]
    by_cases h2 : c ≤ 90
    · rw [if_pos h2]; simp [h2]; omega
    · rw [if_neg h2]; simp [h2]; rfl
  · rw [if_neg h]; simp; rw [decide_eq_false (by omega)]; simp; rfl
theorem impl_isWord_eq (c : Int) : impl_isWordByte.f c = some (lowB c || (largeB c || digB c)) := by
  unfold impl_isWordByte.f
  rw [impl_isSmall_eq, impl_isLarge_eq, impl_isFigure_eq]
  cases lowB c <;> cases largeB c <;> rfl
theorem impl_varOk_ev (s : ByteArray) (hs : s.size ≤ 140737488351232) : Ev (fun k => impl_varOk.f k s) (varOkM s) := by
  rw [← varOk_same]
  unfold impl_varOk.f
  refine all_loopB (fun k i => impl_varOk.l0 k s i) (varQ s) s.size (in20 s && largeB (bt s 0)) ?_ ?_ s.size 0 (by omega)
  · intro i hi r hr hn
    have e1 := impl_isWord_eq (bt s i)
    have hw : wrap64 ((i : Int) + 1) = ((i + 1 : Nat) : Int) := by rw [w64 _ (by omega) (by omega)]; rfl
    have hq : varQ s i = (lowB (bt s i) || (largeB (bt s i) || digB (bt s i))) := rfl
    rw [← hq] at e1
    cases g : varQ s i with
    | true =>
      refine Ev.step (fun k => ?_) (hr g)
      simp only [impl_varOk.l0]
      rw [if_pos (by omega), if_pos (by omega), e1, g, hw]
      rfl
    | false =>
      refine Ev.step (f := fun _ => some false) (fun k => ?_) (ev_cast (hn g).symm (Ev.now _))
      simp only [impl_varOk.l0]
      rw [if_pos (by omega), if_pos (by omega), e1, g]
      rfl
  · refine Ev.step (f := fun _ => some (in20 s && largeB (bt s 0))) (fun k => ?_) (Ev.now _)
    simp only [impl_varOk.l0]
    rw [if_neg (by omega), impl_inRange_eq, impl_isLarge_eq]
    have hi : (decide (1 ≤ (s.size : Int)) && decide ((s.size : Int) ≤ 20)) = in20 s := rfl
    rw [hi]
    simp only [Option.bind_some]
    cases h : in20 s with
    | true =>
      unfold in20 at h
      rw [Bool.and_eq_true, decide_eq_true_eq, decide_eq_true_eq] at h
      rw [if_pos rfl, if_pos (by omega)]; rfl
    | false => rw [if_neg (by decide)]; rfl
theorem hasPrefix2 (s : ByteArray) (a b : UInt8) : strings_HasPrefix.f s (⟨#[a, b]⟩ : ByteArray) = some (decide (s.data.toList.take 2 = [a, b])) := by
  unfold strings_HasPrefix.f stringslite_HasPrefix.f
  have hsz : ((⟨#[a, b]⟩ : ByteArray).size : Int) = 2 := rfl
  rw [hsz]
  by_cases h : (s.size : Int) ≥ 2
  · rw [if_pos h, if_pos (by omega), if_pos (by omega)]
    have e : ((s.extract 0 (2 : Int).toNat).toList == (⟨#[a, b]⟩ : ByteArray).toList) = decide (s.data.toList.take 2 = [a, b]) := by
      rw [Go.Lib.toList_data, Go.Lib.toList_data, tlx, Bool.eq_iff_iff, beq_iff_eq, decide_eq_true_eq]
      exact Iff.rfl
    rw [e]; rfl
  · rw [if_neg h]
    have hl : s.data.toList.length < 2 := by rw [← size_len]; omega
    have : ¬ s.data.toList.take 2 = [a, b] := by
      intro hq
      have := congrArg List.length hq
      rw [List.length_take] at this
      simp at this
      omega
    rw [decide_eq_false this]; rfl
theorem impl_markOf_ev (s : ByteArray) (c : UInt8) (l : List UInt8) (hs : s.data.toList = c :: l) : ∃ r : ByteArray, Ev (fun k => impl_markOf.f k s) r ∧ (r.toList == s.toList) = markOkL (c :: l) := by
  unfold impl_markOf.f
  have h0 : 0 < s.size := by rw [size_len, hs]; simp
  have e1 := hasPrefix2 s 45 62
  have e2 := hasPrefix2 s 61 61
  have hb := bt0 s c l hs
  rw [hs] at e1 e2
  by_cases p1 : (c :: l).take 2 = [45, 62]
  · refine ⟨⟨#[45, 62]⟩, Ev.step (f := fun _ => some ⟨#[45, 62]⟩) (fun k => ?_) (Ev.now _), ?_⟩
    · simp only [impl_markOf.l0]
      rw [if_pos (by omega), if_pos trivial, e1, decide_eq_true p1]
      rfl
    · rw [Go.Lib.toList_data, Go.Lib.toList_data, hs]
      unfold markOkL
      cases l with
      | nil => simp at p1
      | cons d l =>
        simp only [List.take_succ_cons, List.take_zero, List.cons.injEq, and_true] at p1
        obtain ⟨rfl, rfl⟩ := p1
        cases l with
        | nil => decide
        | cons e l => simp [onesL]
  · by_cases p2 : (c :: l).take 2 = [61, 61]
    · refine ⟨⟨#[61, 61]⟩, Ev.step (f := fun k => impl_markOf.l0 k s (0 + 1)) (fun k => ?_) (Ev.step (f := fun _ => some ⟨#[61, 61]⟩) (fun k => ?_) (Ev.now _)), ?_⟩
      · simp only [impl_markOf.l0]
        rw [if_pos (by omega), if_pos trivial, e1, decide_eq_false p1]
        rfl
      · simp only [impl_markOf.l0]
        rw [if_pos (by omega), if_neg (by omega), if_pos (by omega), e2, decide_eq_true p2]
        rfl
      · rw [Go.Lib.toList_data, Go.Lib.toList_data, hs]
        unfold markOkL
        cases l with
        | nil => simp at p2
        | cons d l =>
          simp only [List.take_succ_cons, List.take_zero, List.cons.injEq, and_true] at p2
          obtain ⟨rfl, rfl⟩ := p2
          cases l with
          | nil => decide
          | cons e l => simp [onesL]
    · have step : ∀ r : ByteArray, (∀ k, impl_markOf.l0 (k + 1) s (1 + 1) = some r) → Ev (fun k => impl_markOf.l0 k s 0) r := by
        intro r hr
        refine Ev.step (f := fun k => impl_markOf.l0 k s (0 + 1)) (fun k => ?_) (Ev.step (f := fun k => impl_markOf.l0 k s (1 + 1)) (fun k => ?_) (Ev.step (f := fun _ => some r) hr (Ev.now _)))
        · simp only [impl_markOf.l0]
          rw [if_pos (by omega), if_pos trivial, e1, decide_eq_false p1]
          rfl
        · simp only [impl_markOf.l0]
          rw [if_pos (by omega), if_neg (by omega), if_pos (by omega), e2, decide_eq_false p2]
          rfl
      have hx : ∀ c, Go.Lib.indexByte (⟨#[40, 41, 123, 125, 91, 93, 44, 46, 59, 124, 60, 43, 45, 42]⟩ : ByteArray).data.toList c ≥ 0 ↔ c ∈ onesL := ixb onesL
      have n1 : ¬ (c :: l) = [45, 62] := fun h => p1 (by rw [h]; rfl)
      have n2 : ¬ (c :: l) = [61, 61] := fun h => p2 (by rw [h]; rfl)
      by_cases hc : c ∈ onesL
      · refine ⟨s.extract 0 1, step _ (fun k => ?_), ?_⟩
        · simp only [impl_markOf.l0]
          rw [if_neg (by omega), if_pos (by omega)]
          unfold strings_IndexByte.f stringslite_IndexByte.f
          simp only [Option.bind_some]
          rw [hb, if_pos ((hx c).2 hc), if_pos (by omega), if_pos (by omega)]
        · rw [Go.Lib.toList_data, Go.Lib.toList_data, tlx, hs]
          unfold markOkL
          rw [decide_eq_false n1, decide_eq_false n2, Bool.false_or, Bool.false_or, Bool.eq_iff_iff, beq_iff_eq, List.any_eq_true]
          simp only [List.take_succ_cons, List.take_zero, decide_eq_true_eq]
          constructor
          · intro h
            exact ⟨c, hc, h.symm⟩
          · rintro ⟨d, _, h⟩
            injection h with h h2
            rw [h2]
      · refine ⟨⟨#[]⟩, step _ (fun k => ?_), ?_⟩
        · simp only [impl_markOf.l0]
          rw [if_neg (by omega), if_pos (by omega)]
          unfold strings_IndexByte.f stringslite_IndexByte.f
          simp only [Option.bind_some]
          rw [hb, if_neg (fun h => hc ((hx c).1 h))]
        · rw [Go.Lib.toList_data, Go.Lib.toList_data, hs]
          unfold markOkL
          rw [decide_eq_false n1, decide_eq_false n2, Bool.false_or, Bool.false_or, Bool.eq_iff_iff, beq_iff_eq, List.any_eq_true]
          constructor
          · intro h; cases h
          · rintro ⟨d, hd, h⟩
            rw [decide_eq_true_eq] at h
            injection h with h h2
            exact absurd (h ▸ hd) hc
theorem impl_TokenOk_ev (a b : Int) (s : ByteArray) (hs : s.size ≤ 140737488351232) : Ev (fun k => impl_TokenOk.f k a b s) (tokOkM a b s) := by
  unfold impl_TokenOk.f tokOkM
  by_cases h1 : a = 1
  · rw [if_pos h1]
    refine ev_pos h1 (ev_of ?_)
    rw [impl_inRange_eq, empty_beq]
    simp only [Option.bind_some]
    cases (decide (0 ≤ b) && decide (b ≤ 1000000000000)) <;> rfl
  rw [if_neg h1]
  refine ev_neg h1 ?_
  by_cases h2 : a = 2
  · rw [if_pos h2]
    refine ev_pos h2 ?_
    by_cases hb : b = 0
    · exact ev_pos hb (Ev.bind (impl_AtomOk_ev s hs) (ev_cast (by rw [decide_eq_true hb, Bool.and_true]) (Ev.now _)))
    · exact ev_neg hb (ev_cast (by rw [decide_eq_false hb, Bool.and_false]) (Ev.now _))
  rw [if_neg h2]
  refine ev_neg h2 ?_
  by_cases h3 : a = 3
  · rw [if_pos h3]
    refine ev_pos h3 ?_
    by_cases hb : b = 0
    · exact ev_pos hb (Ev.bind (impl_varOk_ev s hs) (ev_cast (by rw [decide_eq_true hb, Bool.and_true]) (Ev.now _)))
    · exact ev_neg hb (ev_cast (by rw [decide_eq_false hb, Bool.and_false]) (Ev.now _))
  rw [if_neg h3]
  refine ev_neg h3 ?_
  by_cases h4 : a = 4
  · rw [if_pos h4]
    refine ev_pos h4 ?_
    by_cases hb : b = 0
    · refine ev_pos hb ?_
      rw [decide_eq_true hb, Bool.and_true]
      cases hl : s.data.toList with
      | nil => exact ev_pos (by rw [Go.Lib.toList_data, hl]) (ev_cast (by decide) (Ev.now _))
      | cons c l =>
        obtain ⟨r, e, hr⟩ := impl_markOf_ev s c l hl
        exact ev_neg (by rw [Go.Lib.toList_data, hl]; simp) (Ev.bind e (ev_cast hr (Ev.now _)))
    · exact ev_neg hb (ev_cast (by rw [decide_eq_false hb, Bool.and_false]) (Ev.now _))
  rw [if_neg h4]
  exact ev_neg h4 (Ev.now _)
theorem ev_and {c : Bool} {A : Nat → Option Bool} {r : Bool} (e : Ev A r) : Ev (fun k => if c = true then A k else some false) (c && r) := by
  cases c with
  | false => exact ev_neg (by decide) (Ev.now _)
  | true => exact ev_pos rfl e
theorem ev_andP {c : Prop} [Decidable c] {A : Nat → Option Bool} {r : Bool} (e : Ev A r) : Ev (fun k => if c then A k else some false) (decide c && r) := by
  by_cases h : c
  · rw [decide_eq_true h]; exact ev_pos h e
  · rw [decide_eq_false h]; exact ev_neg h (Ev.now _)
theorem len0B (n : Nat) : ((n : Int) == 0) = decide (n = 0) := by by_cases h : n = 0 <;> simp [h]
theorem len2B (n : Nat) : ((n : Int) == 2) = decide (n = 2) := by
  by_cases h : n = 2
  · simp [h]
  · rw [decide_eq_false h, beq_eq_false_iff_ne]; omega
theorem len1B (n : Nat) : ((n : Int) == 1) = decide (n = 1) := by
  by_cases h : n = 1
  · simp [h]
  · rw [decide_eq_false h, beq_eq_false_iff_ne]; omega
def resL (l : List UInt8) : Bool := decide (l = [99, 97, 115, 101]) || (decide (l = [111, 102]) || decide (l = [101, 110, 100]))
def xatomM (s : ByteArray) : Bool := atomOkM s && !(resL s.toList)
def opL (l : List UInt8) : Bool := decide (l = [43]) || (decide (l = [45]) || (decide (l = [42]) || (decide (l = [61, 61]) || decide (l = [60]))))
def noT (s : ByteArray) : Bool := decide (s.toList = ([] : List UInt8))
def shOk (a b : Int) (s : ByteArray) (n : Nat) : Bool :=
  if a = 1 then (decide (0 ≤ b) && decide (b ≤ 1000000000000)) && (noT s && decide (n = 0))
  else decide (b = 0) && (
    if a = 2 then xatomM s && decide (n = 0)
    else if a = 3 then varOkM s && decide (n = 0)
    else if a = 4 ∨ a = 5 then noT s && decide (n ≤ 20)
    else if a = 6 then noT s && (decide (2 ≤ n) && decide (n ≤ 6))
    else if a = 7 then opL s.toList && decide (n = 2)
    else if a = 8 then xatomM s && decide (n ≤ 4)
    else if a = 9 then noT s && decide (n = 1)
    else false)
theorem dcast {p q : Prop} [Decidable p] [Decidable q] (h : p ↔ q) : decide p = decide q := decide_eq_decide.2 h
theorem impl_xAtomOk_ev (s : ByteArray) (hs : s.size ≤ 140737488351232) : Ev (fun k => impl_xAtomOk.f k s) (xatomM s) := by
  unfold impl_xAtomOk.f xatomM
  refine Ev.bind (impl_AtomOk_ev s hs) (ev_and (ev_of ?_))
  unfold resL
  generalize s.toList = l
  by_cases h1 : l = [99, 97, 115, 101]
  · rw [if_pos h1]; simp [h1]
  · rw [if_neg h1]
    by_cases h2 : l = [111, 102]
    · rw [if_pos h2]; simp [h2]
    · rw [if_neg h2]
      by_cases h3 : l = [101, 110, 100] <;> simp [h1, h2, h3]
theorem impl_isOp_eq (s : ByteArray) : impl_isOp.f s = some (opL s.toList) := by
  unfold impl_isOp.f opL
  generalize s.toList = l
  by_cases h1 : l = [43]
  · rw [if_pos h1]; simp [h1]
  rw [if_neg h1]
  by_cases h2 : l = [45]
  · rw [if_pos h2]; simp [h2]
  rw [if_neg h2]
  by_cases h3 : l = [42]
  · rw [if_pos h3]; simp [h3]
  rw [if_neg h3]
  by_cases h4 : l = [61, 61]
  · rw [if_pos h4]; simp [h4]
  rw [if_neg h4]
  by_cases h5 : l = [60] <;> simp [h1, h2, h3, h4, h5]
theorem impl_shapeOk_j0 (a : Int) (s : ByteArray) (n : Nat) (hs : s.size ≤ 140737488351232) (h3 : ¬ (a = 1 ∨ a = 2 ∨ a = 3)) (b : Int) (q : Bool) (hq : q = true ↔ a = 4 ∨ a = 5) :
    Ev (fun k => impl_shapeOk.j0 k b s (n : Int) a q) (shOk a b s n) := by
  unfold shOk noT
  rw [if_neg (by omega), if_neg (by omega), if_neg (by omega)]
  refine Ev.step (f := fun k => if q = true then (if b = 0 then (if s.toList = ([] : List UInt8) then (some (decide ((n : Int) ≤ 20))) else (some false)) else (some false)) else (if a = 6 then (if b = 0 then (if s.toList = ([] : List UInt8) then ((impl_inRange.f (n : Int) 2 6).bind fun t251 => (some t251)) else (some false)) else (some false)) else (if a = 7 then (if b = 0 then ((impl_isOp.f s).bind fun t252 => (if t252 = true then (some ((n : Int) == 2)) else (some false))) else (some false)) else (if a = 8 then (if b = 0 then ((impl_xAtomOk.f k s).bind fun t253 => (if t253 = true then (some (decide ((n : Int) ≤ 4))) else (some false))) else (some false)) else (if a = 9 then (if b = 0 then (if s.toList = ([] : List UInt8) then (some ((n : Int) == 1)) else (some false)) else (some false)) else (some false)))))) (fun k => by simp only [impl_shapeOk.j0]) ?_
  by_cases c4 : a = 4 ∨ a = 5
  · rw [if_pos c4]
    refine ev_pos (hq.2 c4) (ev_cast ?_ (ev_andP (ev_andP (Ev.now _))))
    rw [dcast (show (n : Int) ≤ 20 ↔ n ≤ 20 by omega)]
  rw [if_neg c4]
  refine ev_neg (fun h => c4 (hq.1 h)) ?_
  by_cases c6 : a = 6
  · rw [if_pos c6]
    refine ev_pos c6 (ev_cast ?_ (ev_andP (ev_andP (Ev.bind (ev_of (impl_inRange_eq _ _ _)) (Ev.now _)))))
    rw [dcast (show (2 : Int) ≤ n ↔ 2 ≤ n by omega), dcast (show (n : Int) ≤ 6 ↔ n ≤ 6 by omega)]
  rw [if_neg c6]
  refine ev_neg c6 ?_
  by_cases c7 : a = 7
  · rw [if_pos c7]
    refine ev_pos c7 (ev_cast ?_ (ev_andP (Ev.bind (ev_of (impl_isOp_eq s)) (ev_and (Ev.now _)))))
    rw [len2B]
  rw [if_neg c7]
  refine ev_neg c7 ?_
  by_cases c8 : a = 8
  · rw [if_pos c8]
    refine ev_pos c8 (ev_cast ?_ (ev_andP (Ev.bind (impl_xAtomOk_ev s hs) (ev_and (Ev.now _)))))
    rw [dcast (show (n : Int) ≤ 4 ↔ n ≤ 4 by omega)]
  rw [if_neg c8]
  refine ev_neg c8 ?_
  by_cases c9 : a = 9
  · refine ev_pos c9 ?_
    rw [if_pos c9]
    refine ev_cast ?_ (ev_andP (ev_andP (Ev.now _)))
    rw [len1B]
  · refine ev_neg c9 ?_
    rw [if_neg c9, Bool.and_false]
    exact Ev.now _
theorem impl_shapeOk_ev (a b : Int) (s : ByteArray) (n : Nat) (hs : s.size ≤ 140737488351232) : Ev (fun k => impl_shapeOk.f k a b s (n : Int)) (shOk a b s n) := by
  unfold impl_shapeOk.f
  by_cases c1 : a = 1
  · unfold shOk noT
    rw [if_pos c1]
    refine ev_pos c1 (ev_cast ?_ (Ev.bind (ev_of (impl_inRange_eq _ _ _)) (ev_and (ev_andP (Ev.now _)))))
    rw [len0B]
  refine ev_neg c1 ?_
  by_cases c2 : a = 2
  · unfold shOk
    rw [if_neg c1, if_pos c2]
    refine ev_pos c2 (ev_cast ?_ (ev_andP (Ev.bind (impl_xAtomOk_ev s hs) (ev_and (Ev.now _)))))
    rw [len0B]
  refine ev_neg c2 ?_
  by_cases c3 : a = 3
  · unfold shOk
    rw [if_neg c1, if_neg c2, if_pos c3]
    refine ev_pos c3 (ev_cast ?_ (ev_andP (Ev.bind (impl_varOk_ev s hs) (ev_and (Ev.now _)))))
    rw [len0B]
  refine ev_neg c3 ?_
  by_cases c4 : a = 4
  · exact ev_pos c4 (impl_shapeOk_j0 a s n hs (by omega) b _ (by rw [beq_iff_eq]; omega))
  · exact ev_neg c4 (impl_shapeOk_j0 a s n hs (by omega) b _ (by rw [beq_iff_eq]; omega))
theorem exprAtom (s : ByteArray) (hs : s.size ≤ 140737488351232) : Ev (fun k => impl_ExprOk.f k 2 0 s [] []) (xatomM s) := by
  have e : Ev (fun k => impl_judge_expr.f k 0 [] 2 0 s [] [] 1) (xatomM s, [], 1) := by
    have es := impl_shapeOk_ev 2 0 s 0 hs
    have hsh : shOk 2 0 s 0 = xatomM s := by unfold shOk; rw [if_neg (by decide), if_pos rfl]; simp
    rw [hsh] at es
    have j0 : ∀ q : Bool, Ev (fun k => impl_judge_expr.j0 k 1 q 1 [] 2 0 s [] []) (!q, [], 1) := by
      intro q
      cases q with
      | true => exact Ev.step (f := fun _ => some (false, [], 1)) (fun k => by simp only [impl_judge_expr.j0]; rw [if_pos trivial]) (Ev.now _)
      | false =>
        refine Ev.step (f := fun k => impl_judge_expr.j1 k 1 false 1 [] 2 0 s [] []) (fun k => by simp only [impl_judge_expr.j0]; rw [if_neg (by decide), if_neg (by decide)]; rfl) ?_
        refine Ev.step (f := fun k => impl_judge_expr.l0 k 1 [] 0 0 1 [] 2 0 s [] []) (fun k => by simp only [impl_judge_expr.j1]; rw [if_neg (by decide)]; rfl) ?_
        refine Ev.step (f := fun k => impl_judge_expr.l1 k 1 [] 0 0 1 []) (fun k => by simp only [impl_judge_expr.l0]; rw [if_neg (by decide)]; rfl) ?_
        exact Ev.step (f := fun _ => some (true, [], 1)) (fun k => by simp only [impl_judge_expr.l1]; rw [if_neg (by decide)]) (Ev.now _)
    refine Ev.step (f := fun k => (impl_shapeOk.f k 2 0 s ((0 : Nat) : Int)).bind fun t187 => (if t187 = true then (impl_judge_expr.j0 k 1 false 1 [] 2 0 s [] []) else (impl_judge_expr.j0 k 1 true 1 [] 2 0 s [] []))) (fun k => ?_) (Ev.bind es ?_)
    · simp only [impl_judge_expr.f]
      rw [if_neg (by decide), w64 (0 + 1) (by omega) (by omega), if_neg (by decide)]
      rfl
    · cases hx : xatomM s with
      | true => exact ev_pos rfl (j0 false)
      | false => exact ev_neg (by decide) (j0 true)
  unfold impl_ExprOk.f
  exact Ev.bind e (Ev.now _)
theorem FnAtoms : laws_FnAtoms.Pure := by
  intro l0 hl hl2 hw
  refine Ev.rounds (g := fun k => laws_FnAtoms.f k l0) ?_
  unfold laws_FnAtoms.f
  rw [laws_big_eq]
  by_cases hb : (l0.length : Int) > 1048576
  · refine Ev.bind (Ev.now _) (ev_pos (decide_eq_true hb) (Ev.now _))
  · refine Ev.bind (Ev.now _) (ev_neg (by simpa using hb) ?_)
    obtain ⟨h, e0⟩ := spec_l1New_ev l0 (by omega)
    have c : Cur l0 0 := ⟨by omega, by omega, by omega⟩
    obtain ⟨s, i2, h2, e1, hs, c2⟩ := spec_l1Str_eq l0 0 h [(⟨#[97]⟩ : ByteArray), (⟨#[97, 95, 49]⟩ : ByteArray), (⟨#[]⟩ : ByteArray), (⟨#[65]⟩ : ByteArray), (⟨#[49, 97]⟩ : ByteArray), (⟨#[95, 97]⟩ : ByteArray), (⟨#[116, 119, 101, 110, 116, 121, 98, 121, 116, 101, 115, 116, 119, 101, 110, 116, 121, 98, 121, 116]⟩ : ByteArray), (⟨#[116, 119, 101, 110, 116, 121, 111, 110, 101, 98, 121, 116, 101, 115, 116, 119, 101, 110, 116, 121, 111]⟩ : ByteArray), (⟨#[111, 107]⟩ : ByteArray), (⟨#[195, 169]⟩ : ByteArray)] (by decide) c
    have hsz : s.size ≤ 21 := by
      simp only [List.mem_cons, List.not_mem_nil, or_false] at hs
      rcases hs with rfl | rfl | rfl | rfl | rfl | rfl | rfl | rfl | rfl | rfl <;> decide
    have ed : Ev (fun k => spec_DrawAtomOk.f k l0) s := by
      unfold spec_DrawAtomOk.f
      exact Ev.bind e0 (Ev.bind (ev_of e1) (Ev.now _))
    have ht : termOkM ⟨2, 0, s, []⟩ = atomOkM s := by
      unfold termOkM
      rw [goodM, goodML, countM, countML]
      unfold shapeM
      rw [if_neg (by decide), if_pos rfl]
      simp
    have htk : tokOkM 2 0 s = atomOkM s := by
      unfold tokOkM
      rw [if_neg (by decide), if_pos rfl]
      simp
    have et := impl_TermOk_ev ⟨2, 0, s, []⟩ (by rw [budI, budIL]; omega)
    rw [ht] at et
    have ek := impl_TokenOk_ev 2 0 s (by omega)
    rw [htk] at ek
    have ex := exprAtom s (by omega)
    refine Ev.step (f := fun k => (spec_DrawAtomOk.f k l0).bind fun t215 => ((impl_AtomOk.f k t215).bind fun t216 => (if t215.toList = ([99, 97, 115, 101] : List UInt8) then (laws_FnAtoms.j1 k t215 t216 true) else (if t215.toList = ([111, 102] : List UInt8) then (laws_FnAtoms.j1 k t215 t216 true) else (laws_FnAtoms.j1 k t215 t216 (t215.toList == ([101, 110, 100] : List UInt8))))))) (fun k => by simp only [laws_FnAtoms.j0]) (Ev.bind ed (Ev.bind (impl_AtomOk_ev s (by omega)) ?_))
    have key : ∀ q : Bool, q = resL s.toList → Ev (fun k => laws_FnAtoms.j1 k s (atomOkM s) q) true := by
      intro q hq
      refine Ev.step (f := fun k => (spec_AtomOk.f k s).bind fun t217 => (if (atomOkM s == t217) = true then ((impl_TermOk.f k 2 0 s ([] : List S29)).bind fun t218 => (if (t218 == atomOkM s) = true then ((impl_TokenOk.f k 2 0 s).bind fun t219 => (if (t219 == atomOkM s) = true then ((impl_ExprOk.f k 2 0 s [] []).bind fun t220 => (if atomOkM s = true then (some (t220 == (!q))) else (some (t220 == false)))) else (some false))) else (some false))) else (some false))) (fun k => by simp only [laws_FnAtoms.j1]) ?_
      refine Ev.bind (spec_AtomOk_ev s (by omega)) (ev_pos (by simp) (Ev.bind et (ev_pos (by simp) (Ev.bind ek (ev_pos (by simp) (Ev.bind ex ?_))))))
      unfold xatomM
      cases ha : atomOkM s with
      | true => exact ev_pos rfl (ev_cast (by rw [hq]; simp) (Ev.now _))
      | false => exact ev_neg (by decide) (ev_cast (by simp) (Ev.now _))
    unfold resL at key
    generalize ht2 : s.toList = t at key ⊢
    by_cases h1 : t = [99, 97, 115, 101]
    · exact ev_pos h1 (key true (by simp [h1]))
    · refine ev_neg h1 ?_
      by_cases h2 : t = [111, 102]
      · exact ev_pos h2 (key true (by simp [h2]))
      · refine ev_neg h2 (key _ ?_)
        by_cases h3 : t = [101, 110, 100] <;> simp [h1, h2, h3]

end Go.Proofs.Ytboiagjicjgceaa.Pure
