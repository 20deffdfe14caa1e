/- What the law FnTerms of this seat says holds for every input that its row speaks of; no further condition. -/
import Derived.Test.YthfiopjabfaejaaQFnTermsx9
import Derived.Lib.Strings
set_option linter.unusedVariables false
set_option linter.unusedSimpArgs false
namespace Go.Proofs.Ythfiopjabfaejaa.Pure
open Go.RowKit Go.Proofs.Ythfiopjabfaejaa.QFnTerms Go.Proofs.YthfiopjabfaejaaW.PrintWords Go.Proofs.YthfiopjabfaejaaW.PrintLast Go.Proofs.YthfiopjabfaejaaW.PrintMore

theorem ev_pos {α : Type} {c : Prop} [Decidable c] {A B : Nat → Option α} {r : α} (h : c) (e : Ev A r) : Ev (fun k => if c then A k else B k) r := by
  obtain ⟨K, hK⟩ := e
  exact ⟨K, fun k hk => by simp only [if_pos h]; exact hK k hk⟩
theorem ev_neg {α : Type} {c : Prop} [Decidable c] {A B : Nat → Option α} {r : α} (h : ¬ c) (e : Ev B r) : Ev (fun k => if c then A k else B k) r := by
  obtain ⟨K, hK⟩ := e
  exact ⟨K, fun k hk => by simp only [if_neg h]; exact hK k hk⟩
theorem ev_of {α : Type} {o : Option α} {r : α} (h : o = some r) : Ev (fun _ => o) r := ⟨0, fun _ _ => h⟩
theorem ev_cast {α : Type} {g : Nat → Option α} {r r' : α} (h : r = r') (e : Ev g r) : Ev g r' := h ▸ e
theorem w64 (n : Int) (h0 : -9223372036854775808 ≤ n) (h1 : n ≤ 9223372036854775807) : wrap64 n = n := by unfold wrap64; omega
theorem laws_big_eq (l : List Int) : laws_big.f l = some (decide ((l.length : Int) > 1048576)) := rfl
theorem indI {P : S46 → Prop} (h : ∀ a b s l, (∀ y ∈ l, P y) → P ⟨a, b, s, l⟩) : ∀ x, P x := by
  intro x
  refine S46.rec (motive_1 := P) (motive_2 := fun l => ∀ y ∈ l, P y) ?_ ?_ ?_ x
  · intro a b s l hl
    exact h a b s l hl
  · intro y hy; cases hy
  · intro x r hx hr y hy
    rcases List.mem_cons.1 hy with rfl | hy
    · exact hx
    · exact hr y hy
mutual
def budI : S46 → Nat
  | ⟨_, _, s, l⟩ => s.size + budIL l
def budIL : List S46 → Nat
  | [] => 0
  | x :: r => 1 + budI x + budIL r
end
theorem budI_mk (a b : Int) (s : ByteArray) (l : List S46) : budI ⟨a, b, s, l⟩ = s.size + budIL l := by rw [budI]
theorem budIL_len : ∀ l : List S46, l.length ≤ budIL l
  | [] => by simp [budIL]
  | x :: r => by
    have := budIL_len r
    rw [budIL, List.length_cons]; omega
theorem rdI_mem (l : List S46) (i : Nat) (h : i < l.length) : rd_T46 l i ∈ l := by
  unfold rd_T46
  simp [List.getD_eq_getElem?_getD, List.getElem?_eq_getElem h]
theorem dropI (l : List S46) (i : Nat) (h : i < l.length) : l.drop i = rd_T46 l i :: l.drop (i + 1) := by
  rw [List.drop_eq_getElem_cons h]
  unfold rd_T46
  simp [List.getElem?_eq_getElem h]
theorem budI_mem : ∀ (l : List S46) (x : S46), x ∈ l → budI x + 1 ≤ budIL l
  | [], x, h => by cases h
  | y :: r, x, h => by
    rw [budIL]
    rcases List.mem_cons.1 h with rfl | h
    · omega
    · have := budI_mem r x h; omega
theorem etaI (x : S46) : (⟨x.f0, x.f1, x.f2, x.f3⟩ : S46) = x := by cases x; rfl
def BytesB (l : List Int) : Prop := ∀ x ∈ l, 0 ≤ x ∧ x < 256
theorem BytesB.at_ {l : List Int} (h : BytesB l) (i : Int) : 0 ≤ rd l i ∧ rd l i < 256 := by
  unfold rd
  rw [List.getD_eq_getElem?_getD]
  by_cases hi : i.toNat < l.length
  · rw [List.getElem?_eq_getElem hi]; exact h _ (List.getElem_mem hi)
  · rw [List.getElem?_eq_none (by omega)]; decide
theorem drop_rd (l : List Int) (p : Nat) (h : p < l.length) : l.drop p = rd l p :: l.drop (p + 1) := by
  rw [List.drop_eq_getElem_cons h]
  unfold rd
  simp [List.getElem?_eq_getElem h]
theorem hk63 (n : Int) (h0 : 0 ≤ n) (h1 : n < 2 ^ 63) : IntKind.i64.wrap n = n := by
  rw [IntKind.wrap_i64]; omega
theorem or_comm64 (a b : Int) : Go.bits .or .i64 a b = Go.bits .or .i64 b a := by
  unfold Go.bits
  simp only [BitVec.or_comm]
theorem and127 (c : Int) (h0 : 0 ≤ c) (h1 : c < 256) : Go.bits .and .i64 c 127 = c % 128 := by
  have := bits_mask .i64 63 (by decide) hk63 7 (by decide) c h0 (by omega)
  simpa using this
theorem wrapU7 (i : Nat) (hi : i < 6) : IntKind.u64.wrap (wrap64 (7 * (i : Int))) = 7 * (i : Int) := by
  rw [w64 _ (by omega) (by omega)]
  simp [IntKind.wrap, IntKind.bits, IntKind.signed]
  omega
theorem p7 (i : Nat) (hi : i < 6) : (1 : Int) ≤ 2 ^ (7 * i) ∧ (2 : Int) ^ (7 * i) ≤ 34359738368 ∧ (2 : Int) ^ (7 * (i + 1)) = 128 * 2 ^ (7 * i) := by
  have : i = 0 ∨ i = 1 ∨ i = 2 ∨ i = 3 ∨ i = 4 ∨ i = 5 := by omega
  rcases this with rfl | rfl | rfl | rfl | rfl | rfl <;> decide
theorem grp (x c : Int) (i : Nat) (hi : i < 6) (hx0 : 0 ≤ x) (hx : x < 2 ^ (7 * i)) (hc0 : 0 ≤ c) (hc : c < 256) :
    Go.bits .or .i64 x (shl .i64 (Go.bits .and .i64 c 127) (IntKind.u64.wrap (wrap64 (7 * (i : Int))))) = x + (c % 128) * 2 ^ (7 * i) := by
  obtain ⟨hp1, hp2, _⟩ := p7 i hi
  rw [and127 c hc0 hc, wrapU7 i hi]
  unfold shl
  have hm : min (7 * (i : Int)).toNat (IntKind.i64.bits) = 7 * i := by show min _ 64 = _; omega
  have hb : 0 ≤ c % 128 ∧ c % 128 ≤ 127 := by omega
  have hq0 : 0 ≤ c % 128 * 2 ^ (7 * i) := Int.mul_nonneg hb.1 (by omega)
  have hq1 : c % 128 * 2 ^ (7 * i) ≤ 127 * 34359738368 := Int.mul_le_mul hb.2 hp2 (by omega) (by decide)
  rw [hm, hk63 _ hq0 (by omega), or_comm64]
  rw [bits_join .i64 63 (by decide) hk63 (7 * i) _ x hq0 (Int.mul_emod_left _ _) (by omega) hx0 hx (by omega)]
  omega
/-- What stands at a place: groups of seven bits; the number, and how many bytes. -/
def numM : Nat → Nat → Int → List Int → Option (Int × Nat)
  | 0, _, _, _ => none
  | _ + 1, _, _, [] => none
  | n + 1, i, x, c :: r => if c > 127 then numM n (i + 1) (x + (c % 128) * 2 ^ (7 * i)) r else if c = 0 ∧ 0 < i then none else some (x + (c % 128) * 2 ^ (7 * i), i + 1)
def zag (m : Int) : Int := if m % 2 = 1 then -(m / 2) - 1 else m / 2
def numFin (a : Int) : Option (Int × Nat) → Int × Int × Bool
  | none => (0, 0, false)
  | some (m, c) => if -1000000000000 ≤ zag m ∧ zag m ≤ 1000000000000 then (zag m, a + c, true) else (0, 0, false)
def getNumM (l : List Int) (a : Int) : Int × Int × Bool := if 0 ≤ a ∧ a < l.length then numFin a (numM 6 0 0 (l.drop a.toNat)) else (0, 0, false)
def Cur (b : List Int) (i : Int) : Prop := 0 ≤ i ∧ i ≤ b.length ∧ (b.length : Int) ≤ 1048576
theorem and255 (x : Int) : 0 ≤ Go.bits .and .i64 x 255 ∧ Go.bits .and .i64 x 255 ≤ 255 := by
  have h : Go.bits .and .i64 x 255 = IntKind.i64.wrap (((BitVec.ofInt 64 x) &&& (BitVec.ofInt 64 255)).toNat : Int) := rfl
  have h2 : ((BitVec.ofInt 64 x) &&& (BitVec.ofInt 64 255)).toNat ≤ 255 := by
    rw [BitVec.toNat_and]
    exact Nat.and_le_right
  rw [h, hk63 _ (by omega) (by omega)]
  omega
theorem spec_l1Byte_eq (b : List Int) (i h : Int) (hc : Cur b i) : ∃ v i2 h2, spec_l1Byte.f b i h = some (v, i2, h2) ∧ 0 ≤ v ∧ v ≤ 255 ∧ Cur b i2 := by
  unfold spec_l1Byte.f
  obtain ⟨h0, h1, h2⟩ := hc
  by_cases hi : i < (b.length : Int)
  · rw [if_pos hi, if_pos h0, w64 (i + 1) (by omega) (by omega)]
    exact ⟨_, _, _, rfl, (and255 _).1, (and255 _).2, by omega, by omega, h2⟩
  · rw [if_neg hi]
    exact ⟨_, _, _, rfl, (and255 _).1, (and255 _).2, h0, h1, h2⟩
theorem spec_l1Below_eq (b : List Int) (i h n : Int) (hc : Cur b i) : ∃ v i2 h2, spec_l1Below.f b i h n = some (v, i2, h2) ∧ 0 ≤ v ∧ (0 < n → v < n) ∧ (n ≤ 0 → v = 0) ∧ Cur b i2 := by
  unfold spec_l1Below.f
  by_cases h0 : n ≤ 0
  · rw [if_pos h0]
    exact ⟨0, i, h, rfl, by omega, by omega, fun _ => rfl, hc⟩
  rw [if_neg h0]
  by_cases h1 : n ≤ 256
  · rw [if_pos h1]
    obtain ⟨v, i2, h2, e, v0, v1, c2⟩ := spec_l1Byte_eq b i h hc
    rw [e]
    simp only [Option.bind_some]
    rw [if_neg (by omega)]
    refine ⟨_, _, _, rfl, ?_, fun _ => ?_, by omega, c2⟩
    · rw [Int.tmod_eq_emod_of_nonneg v0]; exact Int.emod_nonneg _ (by omega)
    · rw [Int.tmod_eq_emod_of_nonneg v0]; exact Int.emod_lt_of_pos _ (by omega)
  · rw [if_neg h1]
    obtain ⟨x, i2, h2, e, x0, x1, c2⟩ := spec_l1Byte_eq b i h hc
    rw [e]
    simp only [Option.bind_some]
    obtain ⟨y, i3, h3, e3, y0, y1, c3⟩ := spec_l1Byte_eq b i2 h2 c2
    rw [e3]
    simp only [Option.bind_some]
    obtain ⟨z, i4, h4, e4, z0, z1, c4⟩ := spec_l1Byte_eq b i3 h3 c3
    rw [e4]
    simp only [Option.bind_some]
    rw [if_neg (by omega), w64 (x * 65536) (by omega) (by omega), w64 (y * 256) (by omega) (by omega), w64 (x * 65536 + y * 256) (by omega) (by omega), w64 (x * 65536 + y * 256 + z) (by omega) (by omega)]
    refine ⟨_, _, _, rfl, ?_, fun _ => ?_, by omega, c4⟩
    · rw [Int.tmod_eq_emod_of_nonneg (by omega)]; exact Int.emod_nonneg _ (by omega)
    · rw [Int.tmod_eq_emod_of_nonneg (by omega)]; exact Int.emod_lt_of_pos _ (by omega)
theorem spec_l1Int_eq (b : List Int) (i h : Int) (l : List Int) (hl : 0 < l.length) (hc : Cur b i) : ∃ v i2 h2, spec_l1Int.f b i h l = some (v, i2, h2) ∧ v ∈ l ∧ Cur b i2 := by
  unfold spec_l1Int.f
  obtain ⟨v, i2, h2, e, v0, v1, _, c2⟩ := spec_l1Below_eq b i h l.length hc
  rw [e]
  simp only [Option.bind_some]
  have v2 := v1 (by omega)
  rw [if_pos v0, if_pos v2]
  refine ⟨_, _, _, rfl, ?_, c2⟩
  unfold rd
  have hv : v.toNat < l.length := by omega
  simp [List.getD_eq_getElem?_getD, List.getElem?_eq_getElem hv]
theorem spec_l1Str_eq (b : List Int) (i h : Int) (l : List ByteArray) (hl : 0 < l.length) (hc : Cur b i) : ∃ v i2 h2, spec_l1Str.f b i h l = some (v, i2, h2) ∧ v ∈ l ∧ Cur b i2 := by
  unfold spec_l1Str.f
  obtain ⟨v, i2, h2, e, v0, v1, _, c2⟩ := spec_l1Below_eq b i h l.length hc
  rw [e]
  simp only [Option.bind_some]
  have v2 := v1 (by omega)
  rw [if_pos v0, if_pos v2]
  refine ⟨_, _, _, rfl, ?_, c2⟩
  unfold rdOf
  have hv : v.toNat < l.length := by omega
  simp [List.getD_eq_getElem?_getD, List.getElem?_eq_getElem hv]
theorem spec_l1Once_eq (b : List Int) (i h n : Int) (hc : Cur b i) : ∃ v i2 h2, spec_l1Once.f b i h n = some (v, i2, h2) ∧ Cur b i2 := by
  unfold spec_l1Once.f
  obtain ⟨v, i2, h2, e, _, _, _, c2⟩ := spec_l1Below_eq b i h n hc
  rw [e]
  exact ⟨_, _, _, rfl, c2⟩
theorem budIL_app : ∀ (l m : List S46), budIL (l ++ m) = budIL l + budIL m
  | [], m => by rw [List.nil_append, budIL]; omega
  | x :: r, m => by rw [List.cons_append, budIL, budIL, budIL_app r m]; omega
theorem budIL_one (x : S46) : budIL [x] = 1 + budI x := by rw [budIL, budIL]; rfl
theorem budI_eta (x : S46) : budI x = x.f2.size + budIL x.f3 := by cases x; rw [budI]
theorem take_rdI (l : List S46) (i : Nat) (h : i < l.length) : l.take i ++ [rd_T46 l i] = l.take (i + 1) := by
  rw [List.take_add_one]
  unfold rd_T46
  simp [List.getElem?_eq_getElem h]
theorem spec_l2Draw_l (b : List Int) (d : Nat) (hd : d ≤ 3) (B : Nat)
    (ih : 0 < d → ∀ i h, Cur b i → ∃ (x : S46) (i2 h2 : Int), Ev (fun k => spec_l2Draw.f k b i h ((d - 1 : Nat) : Int)) (x.f0, x.f1, x.f2, x.f3, i2, h2) ∧ budI x ≤ B ∧ Cur b i2) (t0 t1 : Int) (s : ByteArray) :
    ∀ (n : Nat) (l : List S46) (i h : Int), n ≤ 3 → budIL l + n * (B + 1) ≤ 60000 → Cur b i → ∃ l2 i2 h2, Ev (fun k => spec_l2Draw.l0 k d n b i h t0 t1 s l) (t0, t1, s, l2, i2, h2) ∧ budIL l2 ≤ budIL l + n * (B + 1) ∧ Cur b i2 := by
  intro n
  induction n with
  | zero =>
    intro l i h hn hl hc
    refine ⟨l, i, h, Ev.step (f := fun _ => some (t0, t1, s, l, i, h)) (fun k => ?_) (Ev.now _), by omega, hc⟩
    simp only [spec_l2Draw.l0]; rw [if_neg (by omega)]
  | succ n ihn =>
    intro l i h hn hl hc
    rw [Nat.succ_mul] at hl
    by_cases h0 : (d : Int) > 0
    · obtain ⟨x, i2, h2, e, hx, c2⟩ := ih (by omega) i h hc
      have hlen := budIL_len l
      have ha := budIL_app l [x]
      rw [budIL_one] at ha
      obtain ⟨l3, i3, h3, e3, hl3, c3⟩ := ihn (l ++ [x]) i2 h2 (by omega) (by omega) c2
      refine ⟨l3, i3, h3, Ev.step (f := fun k => (spec_l2Draw.f k b i h ((d - 1 : Nat) : Int)).bind fun bt => (if l.length < 2513169434916 then (spec_l2Draw.l0 k d (wrap64 (((n + 1 : Nat) : Int) - 1)) b bt.2.2.2.2.1 bt.2.2.2.2.2 t0 t1 s (l ++ [(⟨bt.1, bt.2.1, bt.2.2.1, bt.2.2.2.1⟩ : S46)])) else none)) (fun k => ?_) (Ev.bind e (ev_pos (by omega) ?_)), ?_, c3⟩
      · simp only [spec_l2Draw.l0]; rw [if_pos (by omega), if_pos h0, w64 ((d : Int) - 1) (by omega) (by omega), show (d : Int) - 1 = ((d - 1 : Nat) : Int) from by omega]
      · rw [w64 _ (by omega) (by omega), show ((n + 1 : Nat) : Int) - 1 = (n : Int) from by omega]
        simp only [etaI]
        exact e3
      · rw [Nat.succ_mul]; omega
    · refine ⟨l, i, h, Ev.step (f := fun _ => some (t0, t1, s, l, i, h)) (fun k => ?_) (Ev.now _), by omega, hc⟩
      simp only [spec_l2Draw.l0]; rw [if_pos (by omega), if_neg h0]
def drawB : Nat → Nat
  | 0 => 4
  | d + 1 => 3 * drawB d + 4
theorem drawB_hi (d : Nat) (h : d ≤ 3) : drawB d ≤ 160 := by
  have : d = 0 ∨ d = 1 ∨ d = 2 ∨ d = 3 := by omega
  rcases this with rfl | rfl | rfl | rfl <;> decide
theorem spec_l2Draw_j1 (b : List Int) (d : Nat) (hd : d ≤ 3) (B : Nat) (hB : B ≤ 1000)
    (ih : 0 < d → ∀ i h, Cur b i → ∃ (x : S46) (i2 h2 : Int), Ev (fun k => spec_l2Draw.f k b i h ((d - 1 : Nat) : Int)) (x.f0, x.f1, x.f2, x.f3, i2, h2) ∧ budI x ≤ B ∧ Cur b i2)
    (v : Int) (q : Bool) (i h : Int) (hc : Cur b i) : ∃ (x : S46) (i2 h2 : Int), Ev (fun k => spec_l2Draw.j1 k d v q b i h) (x.f0, x.f1, x.f2, x.f3, i2, h2) ∧ budI x ≤ 3 * B + 4 ∧ Cur b i2 := by
  cases q with
  | true =>
    obtain ⟨s, i2, h2, e, hs, c2⟩ := spec_l1Str_eq b i h [(⟨#[111, 107]⟩ : ByteArray), (⟨#[115, 116, 111, 112]⟩ : ByteArray), (⟨#[97]⟩ : ByteArray), (⟨#[116, 114, 117, 101]⟩ : ByteArray), (⟨#[97, 100, 100]⟩ : ByteArray)] (by decide) hc
    refine ⟨⟨2, 0, s, []⟩, i2, h2, Ev.step (f := fun _ => some (2, 0, s, [], i2, h2)) (fun k => ?_) (Ev.now _), ?_, c2⟩
    · simp only [spec_l2Draw.j1]; rw [if_pos trivial, e]; rfl
    · rw [budI, budIL]
      simp only [List.mem_cons, List.not_mem_nil, or_false] at hs
      rcases hs with rfl | rfl | rfl | rfl | rfl <;> (show (_ : Nat) + 0 ≤ _; exact Nat.le_trans (by decide) (Nat.le_add_left 4 _))
  | false =>
    by_cases h5 : v = 5
    · obtain ⟨n, i2, h2, e, _, _, _, c2⟩ := spec_l1Below_eq b i h 5 hc
      refine ⟨⟨3, n, ⟨#[]⟩, []⟩, i2, h2, Ev.step (f := fun _ => some (3, n, ⟨#[]⟩, [], i2, h2)) (fun k => ?_) (Ev.now _), ?_, c2⟩
      · simp only [spec_l2Draw.j1]; rw [if_neg (by decide), if_pos h5, e]; rfl
      · rw [budI, budIL]; exact Nat.zero_le _
    · obtain ⟨t, i2, h2, e, _, c2⟩ := spec_l1Int_eq b i h [4, 5] (by decide) hc
      obtain ⟨n, i3, h3, e3, n0, n1, _, c3⟩ := spec_l1Below_eq b i2 h2 4 c2
      have n2 := n1 (by decide)
      have hl := spec_l2Draw_l b d hd B ih t 0 ⟨#[]⟩ n.toNat [] i3 h3 (by omega) (by
        rw [budIL]
        have : n.toNat * (B + 1) ≤ 3 * (B + 1) := Nat.mul_le_mul_right _ (by omega)
        omega) c3
      obtain ⟨l2, i4, h4, e4, hl2, c4⟩ := hl
      rw [show ((n.toNat : Nat) : Int) = n from by omega] at e4
      refine ⟨⟨t, 0, ⟨#[]⟩, l2⟩, i4, h4, Ev.step (f := fun k => spec_l2Draw.l0 k d n b i3 h3 t 0 ⟨#[]⟩ []) (fun k => ?_) e4, ?_, c4⟩
      · simp only [spec_l2Draw.j1]; rw [if_neg (by decide), if_neg h5, e]
        simp only [Option.bind_some]
        rw [e3]; rfl
      · rw [budI]
        rw [budIL] at hl2
        have : n.toNat * (B + 1) ≤ 3 * (B + 1) := Nat.mul_le_mul_right _ (by omega)
        show 0 + budIL l2 ≤ _
        omega
theorem spec_l2Draw_j0 (b : List Int) (d : Nat) (hd : d ≤ 3) (B : Nat) (hB : B ≤ 1000)
    (ih : 0 < d → ∀ i h, Cur b i → ∃ (x : S46) (i2 h2 : Int), Ev (fun k => spec_l2Draw.f k b i h ((d - 1 : Nat) : Int)) (x.f0, x.f1, x.f2, x.f3, i2, h2) ∧ budI x ≤ B ∧ Cur b i2)
    (v : Int) (q : Bool) (i h : Int) (hc : Cur b i) : ∃ (x : S46) (i2 h2 : Int), Ev (fun k => spec_l2Draw.j0 k d v q b i h) (x.f0, x.f1, x.f2, x.f3, i2, h2) ∧ budI x ≤ 3 * B + 4 ∧ Cur b i2 := by
  cases q with
  | true =>
    obtain ⟨w, i2, h2, e, _, _, _, c2⟩ := spec_l1Below_eq b i h 1000 hc
    obtain ⟨n, i3, h3, e3, _, c3⟩ := spec_l1Int_eq b i2 h2 [0, 1, 2, (-1), 7, 1000000000000, (-1000000000000), w] (by simp) c2
    refine ⟨⟨1, n, ⟨#[]⟩, []⟩, i3, h3, Ev.step (f := fun _ => some (1, n, ⟨#[]⟩, [], i3, h3)) (fun k => ?_) (Ev.now _), ?_, c3⟩
    · simp only [spec_l2Draw.j0]; rw [if_pos trivial, e]
      simp only [Option.bind_some]
      rw [e3]; rfl
    · rw [budI, budIL]; exact Nat.zero_le _
  | false =>
    obtain ⟨x, i2, h2, e, hx, c2⟩ := spec_l2Draw_j1 b d hd B hB ih v (if v = 3 then v == 3 else v == 4) i h hc
    refine ⟨x, i2, h2, Ev.step (fun k => ?_) e, hx, c2⟩
    simp only [spec_l2Draw.j0]; rw [if_neg (by decide)]
    split <;> rfl
theorem spec_l2Draw_step (b : List Int) (d : Nat) (hd : d ≤ 3) (B : Nat) (hB : B ≤ 1000)
    (ih : 0 < d → ∀ i h, Cur b i → ∃ (x : S46) (i2 h2 : Int), Ev (fun k => spec_l2Draw.f k b i h ((d - 1 : Nat) : Int)) (x.f0, x.f1, x.f2, x.f3, i2, h2) ∧ budI x ≤ B ∧ Cur b i2)
    (i h : Int) (hc : Cur b i) : ∃ (x : S46) (i2 h2 : Int), Ev (fun k => spec_l2Draw.f k b i h d) (x.f0, x.f1, x.f2, x.f3, i2, h2) ∧ budI x ≤ 3 * B + 4 ∧ Cur b i2 := by
  obtain ⟨v, i2, h2, e, _, _, _, c2⟩ := spec_l1Below_eq b i h 8 hc
  obtain ⟨x, i3, h3, e3, hx, c3⟩ := spec_l2Draw_j0 b d hd B hB ih v (if v = 0 then v == 0 else if v = 1 then v == 1 else v == 2) i2 h2 c2
  refine ⟨x, i3, h3, Ev.step (fun k => ?_) e3, hx, c3⟩
  simp only [spec_l2Draw.f]; rw [e]
  simp only [Option.bind_some]
  split
  · rfl
  · split <;> rfl
theorem spec_l2Draw_all (b : List Int) (d : Nat) : d ≤ 3 → ∀ i h, Cur b i → ∃ (x : S46) (i2 h2 : Int), Ev (fun k => spec_l2Draw.f k b i h (d : Int)) (x.f0, x.f1, x.f2, x.f3, i2, h2) ∧ budI x ≤ drawB d ∧ Cur b i2 := by
  induction d with
  | zero =>
    intro hd i h hc
    exact spec_l2Draw_step b 0 hd 0 (by omega) (fun h0 => absurd h0 (by omega)) i h hc
  | succ d ih =>
    intro hd i h hc
    have := drawB_hi d (by omega)
    exact spec_l2Draw_step b (d + 1) hd (drawB d) (by omega) (fun _ i h hc => ih (by omega) i h hc) i h hc
theorem spec_l2Copy_l (a b : Int) (s : ByteArray) (l : List S46) (hl : (budIL l : Int) ≤ 4194304)
    (h : ∀ y ∈ l, Ev (fun k => spec_l2Copy.f k y.f0 y.f1 y.f2 y.f3) (y.f0, y.f1, y.f2, y.f3)) (d : Nat) : ∀ (i : Nat), i + d = l.length → Ev (fun k => spec_l2Copy.l0 k i a b s l a b s (l.take i)) (a, b, s, l) := by
  have hlen := budIL_len l
  induction d with
  | zero =>
    intro i hi
    refine Ev.step (f := fun _ => some (a, b, s, l)) (fun k => ?_) (Ev.now _)
    simp only [spec_l2Copy.l0]; rw [if_neg (by omega), List.take_of_length_le (by omega)]
  | succ d ih =>
    intro i hi
    have hlt : i < l.length := by omega
    have e := h _ (rdI_mem l i hlt)
    have ht := take_rdI l i hlt
    generalize hy : rd_T46 l i = y at *
    refine Ev.step (f := fun k => (spec_l2Copy.f k y.f0 y.f1 y.f2 y.f3).bind fun bt => (if (l.take i).length < 2513169434916 then (spec_l2Copy.l0 k (wrap64 ((i : Int) + 1)) a b s l a b s (l.take i ++ [(⟨bt.1, bt.2.1, bt.2.2.1, bt.2.2.2⟩ : S46)])) else none)) (fun k => ?_) (Ev.bind e (ev_pos (by rw [List.length_take]; omega) ?_))
    · simp only [spec_l2Copy.l0]; rw [if_pos (by omega), if_pos (by omega), hy]
    · rw [w64 _ (by omega) (by omega)]
      refine ev_cast rfl ?_
      have := ih (i + 1) (by omega)
      rw [← ht] at this
      simp only [etaI]
      exact this
theorem spec_l2Copy_all : ∀ x, (budI x : Int) ≤ 4194304 → Ev (fun k => spec_l2Copy.f k x.f0 x.f1 x.f2 x.f3) (x.f0, x.f1, x.f2, x.f3) := by
  refine indI ?_
  intro a b s l ih hb
  rw [budI] at hb
  refine Ev.step (fun k => ?_) (spec_l2Copy_l a b s l (by omega) (fun y hy => ih y hy (by have := budI_mem l y hy; omega)) l.length 0 (by omega))
  simp only [spec_l2Copy.f]; rfl
theorem spec_l2Bend_l (b : List Int) (i h : Int) (d : Nat) : ∀ (j : Nat) (x : S46), j + d = 8 → ∃ y : S46, Ev (fun k => spec_l2Bend.l0 k j b i h x.f0 x.f1 x.f2 x.f3) (y.f0, y.f1, y.f2, y.f3, i, h) ∧ budI y ≤ budI x + d := by
  induction d with
  | zero =>
    intro j x hj
    refine ⟨x, Ev.step (f := fun _ => some (x.f0, x.f1, x.f2, x.f3, i, h)) (fun k => ?_) (Ev.now _), by omega⟩
    simp only [spec_l2Bend.l0]; rw [if_neg (by omega)]
  | succ d ih =>
    intro j x hj
    obtain ⟨y, e, hy⟩ := ih (j + 1) ⟨4, 0, ⟨#[]⟩, [x]⟩ (by omega)
    refine ⟨y, Ev.step (fun k => ?_) e, ?_⟩
    · simp only [spec_l2Bend.l0]; rw [if_pos (by omega), w64 _ (by omega) (by omega), etaI]; rfl
    · rw [budI, budIL_one] at hy
      have : (⟨#[]⟩ : ByteArray).size = 0 := rfl
      omega
theorem spec_l2Bend_ev (b : List Int) (i h : Int) (hc : Cur b i) (x : S46) (hx : budI x ≤ 4000) : ∃ (y : S46) (i2 h2 : Int), Ev (fun k => spec_l2Bend.f k b i h x.f0 x.f1 x.f2 x.f3) (y.f0, y.f1, y.f2, y.f3, i2, h2) ∧ budI y ≤ budI x + 30 ∧ Cur b i2 := by
  have hcp := spec_l2Copy_all x (by omega)
  have hb := budI_eta x
  obtain ⟨v, i2, h2, e, _, _, _, c2⟩ := spec_l1Below_eq b i h 6 hc
  unfold spec_l2Bend.f
  by_cases h0 : v = 0
  · obtain ⟨n, i3, h3, e3, _, _, _, c3⟩ := spec_l1Below_eq b i2 h2 7 c2
    exact ⟨⟨n, x.f1, x.f2, x.f3⟩, i3, h3, Ev.bind hcp (Ev.bind (ev_of e) (ev_pos h0 (Ev.bind (ev_of e3) (Ev.now _)))), by rw [budI]; omega, c3⟩
  by_cases h1 : v = 1
  · obtain ⟨n, i3, h3, e3, _, c3⟩ := spec_l1Int_eq b i2 h2 [(-1), 1000000000001, 1000001, 3] (by decide) c2
    exact ⟨⟨x.f0, n, x.f2, x.f3⟩, i3, h3, Ev.bind hcp (Ev.bind (ev_of e) (ev_neg h0 (ev_pos h1 (Ev.bind (ev_of e3) (Ev.now _))))), by rw [budI]; omega, c3⟩
  by_cases h2' : v = 2
  · obtain ⟨s, i3, h3, e3, hs, c3⟩ := spec_l1Str_eq b i2 h2 [(⟨#[]⟩ : ByteArray), (⟨#[65]⟩ : ByteArray), (⟨#[120]⟩ : ByteArray), (⟨#[116, 119, 101, 110, 116, 121, 111, 110, 101, 98, 121, 116, 101, 115, 116, 119, 101, 110, 116, 121, 111]⟩ : ByteArray)] (by decide) c2
    have hs2 : s.size ≤ 21 := by
      simp only [List.mem_cons, List.not_mem_nil, or_false] at hs
      rcases hs with rfl | rfl | rfl | rfl <;> decide
    exact ⟨⟨x.f0, x.f1, s, x.f3⟩, i3, h3, Ev.bind hcp (Ev.bind (ev_of e) (ev_neg h0 (ev_neg h1 (ev_pos h2' (Ev.bind (ev_of e3) (Ev.now _)))))), by rw [budI]; omega, c3⟩
  by_cases h3' : v = 3
  · have hlen := budIL_len x.f3
    refine ⟨⟨x.f0, x.f1, x.f2, x.f3 ++ [⟨1, 4, ⟨#[]⟩, []⟩]⟩, i2, h2, Ev.bind hcp (Ev.bind (ev_of e) (ev_neg h0 (ev_neg h1 (ev_neg h2' (ev_pos h3' (ev_pos ?_ (Ev.now _))))))), ?_, c2⟩
    · show x.f3.length < _; omega
    · rw [budI, budIL_app, budIL_one, budI, budIL]
      have : (⟨#[]⟩ : ByteArray).size = 0 := rfl
      omega
  by_cases h4' : v = 4
  · obtain ⟨y, ey, hy⟩ := spec_l2Bend_l b i2 h2 8 0 x (by omega)
    exact ⟨y, i2, h2, Ev.bind hcp (Ev.bind (ev_of e) (ev_neg h0 (ev_neg h1 (ev_neg h2' (ev_neg h3' (ev_pos h4' ey)))))), by omega, c2⟩
  · exact ⟨x, i2, h2, Ev.bind hcp (Ev.bind (ev_of e) (ev_neg h0 (ev_neg h1 (ev_neg h2' (ev_neg h3' (ev_neg h4' (Ev.now _))))))), by omega, c2⟩
theorem spec_l2Any_ev (b : List Int) (i h : Int) (hc : Cur b i) : ∃ (y : S46) (i2 h2 : Int), Ev (fun k => spec_l2Any.f k b i h) (y.f0, y.f1, y.f2, y.f3, i2, h2) ∧ budI y ≤ 200 ∧ Cur b i2 := by
  obtain ⟨x, i2, h2, e, hx, c2⟩ := spec_l2Draw_all b 3 (by omega) i h hc
  have hx2 := drawB_hi 3 (by omega)
  obtain ⟨v, i3, h3, e3, c3⟩ := spec_l1Once_eq b i2 h2 5 c2
  unfold spec_l2Any.f
  cases v with
  | true =>
    obtain ⟨y, i4, h4, e4, hy, c4⟩ := spec_l2Bend_ev b i3 h3 c3 x (by omega)
    exact ⟨y, i4, h4, Ev.bind e (Ev.bind (ev_of e3) (ev_pos rfl (Ev.bind e4 (Ev.now _)))), by omega, c4⟩
  | false =>
    exact ⟨x, i3, h3, Ev.bind e (Ev.bind (ev_of e3) (ev_neg (fun hf : false = true => Bool.noConfusion hf) (Ev.now _))), by omega, c3⟩
theorem spec_l1New_l (l : List Int) (hl : (l.length : Int) ≤ 1048576) (d : Nat) : ∀ (i : Nat) (h : Int), i + d = l.length → ∃ h2, Ev (fun k => spec_l1New.l0 k l h i) (l, 0, h2) := by
  induction d with
  | zero =>
    intro i h hi
    refine ⟨h, Ev.step (f := fun _ => some (l, 0, h)) (fun k => ?_) (Ev.now _)⟩
    simp only [spec_l1New.l0]; rw [if_neg (by omega)]
  | succ d ih =>
    intro i h hi
    by_cases h4 : (i : Int) < 4000
    · obtain ⟨h2, e⟩ := ih (i + 1) (Go.bits .and .i64 (wrap64 ((wrap64 ((wrap64 (h * 137)) + (wrap64 (rd l i)))) + 11)) 1073741823) (by omega)
      refine ⟨h2, Ev.step (fun k => ?_) e⟩
      simp only [spec_l1New.l0]; rw [if_pos (by omega), if_pos h4, if_pos (by omega), w64 ((i : Int) + 1) (by omega) (by omega)]
      rfl
    · refine ⟨h, Ev.step (f := fun _ => some (l, 0, h)) (fun k => ?_) (Ev.now _)⟩
      simp only [spec_l1New.l0]; rw [if_pos (by omega), if_neg h4]
theorem spec_l1New_ev (l : List Int) (hl : (l.length : Int) ≤ 1048576) : ∃ h, Ev (fun k => spec_l1New.f k l) (l, 0, h) := spec_l1New_l l hl l.length 0 _ (by omega)
def lowB (c : Int) : Bool := decide (97 ≤ c) && decide (c ≤ 122)
def digB (c : Int) : Bool := decide (48 ≤ c) && decide (c ≤ 57)
def atomFrom (s : ByteArray) (i : Nat) : Bool := (List.range' i (s.size - i)).all fun j => lowB (bt s j) || (!decide (j = 0) && (digB (bt s j) || decide (bt s j = 95)))
def atomOkM (s : ByteArray) : Bool := atomFrom s 0 && (decide (1 ≤ (s.size : Int)) && decide ((s.size : Int) ≤ 20))
theorem atomFrom_end (s : ByteArray) (i : Nat) (h : s.size ≤ i) : atomFrom s i = true := by
  unfold atomFrom
  rw [Nat.sub_eq_zero_of_le h]; rfl
theorem atomFrom_step (s : ByteArray) (i : Nat) (h : i < s.size) : atomFrom s i = ((lowB (bt s i) || (!decide (i = 0) && (digB (bt s i) || decide (bt s i = 95)))) && atomFrom s (i + 1)) := by
  unfold atomFrom
  obtain ⟨n, hn⟩ : ∃ n, s.size - i = n + 1 := ⟨s.size - i - 1, by omega⟩
  rw [hn, show s.size - (i + 1) = n from by omega, List.range'_succ]
  simp [List.all_cons]
theorem wbt (s : ByteArray) (i : Int) : wrap64 (bt s i) = bt s i := by
  have := bt_range s i
  exact w64 _ (by omega) (by omega)
mutual
def countM : S46 → Nat
  | ⟨_, _, _, l⟩ => 1 + countML l
def countML : List S46 → Nat
  | [] => 0
  | x :: r => countM x + countML r
end
def noText (s : ByteArray) : Bool := decide (s.toList = ([] : List UInt8))
def shapeM (a b : Int) (s : ByteArray) (l : List S46) : Bool :=
  if a = 1 then (decide (-1000000000000 ≤ b) && decide (b ≤ 1000000000000)) && (noText s && ((l.length : Int) == 0))
  else if a = 2 then atomOkM s && (decide (b = 0) && ((l.length : Int) == 0))
  else if a = 3 then (decide (0 ≤ b) && decide (b ≤ 1000000)) && (noText s && ((l.length : Int) == 0))
  else if a = 4 then decide (b = 0) && (noText s && decide ((l.length : Int) ≤ 20))
  else if a = 5 then decide (b = 0) && (noText s && decide ((l.length : Int) ≤ 60))
  else false
mutual
def goodM : S46 → Nat → Bool
  | ⟨a, b, s, l⟩, n => match n with
    | 0 => false
    | n + 1 => shapeM a b s l && goodML l n
def goodML : List S46 → Nat → Bool
  | [], _ => true
  | x :: r, n => goodM x n && goodML r n
end
def termOkM (x : S46) : Bool := goodM x 8 && decide (countM x ≤ 300)
theorem count_pos (x : S46) : 1 ≤ countM x := by
  cases x; rw [countM]; omega
def grp7 : Nat → Int → List Int
  | 0, x => [x]
  | n + 1, x => if x > 127 then (x % 128 + 128) :: grp7 n (x / 128) else [x]
def clampM (n : Int) : Int := if n < -1000000000000 then -1000000000000 else if n > 1000000000000 then 1000000000000 else n
def zigM (c : Int) : Int := if c < 0 then -2 * c - 1 else 2 * c
def putNumM (n : Int) : List Int := grp7 5 (zigM (clampM n))
theorem grp7_len (n : Nat) : ∀ x, (grp7 n x).length ≤ n + 1 := by
  induction n with
  | zero => intro x; simp [grp7]
  | succ n ih =>
    intro x
    unfold grp7
    split
    · have := ih (x / 128); simp only [List.length_cons]; omega
    · simp
theorem grp7_bytes (n : Nat) : ∀ x, 0 ≤ x → x < 2 ^ (7 * (n + 1)) → BytesB (grp7 n x) := by
  induction n with
  | zero =>
    intro x h0 h1
    intro y hy
    simp [grp7] at hy
    subst hy
    have : (2 : Int) ^ (7 * (0 + 1)) = 128 := by decide
    omega
  | succ n ih =>
    intro x h0 h1
    have hp : (2 : Int) ^ (7 * (n + 1 + 1)) = 2 ^ (7 * (n + 1)) * 128 := by
      rw [show 7 * (n + 1 + 1) = 7 * (n + 1) + 7 from by omega, Int.pow_add]
      rfl
    unfold grp7
    split
    · rename_i h
      intro y hy
      rcases List.mem_cons.1 hy with rfl | hy
      · omega
      · exact ih (x / 128) (by omega) (by rw [hp] at h1; omega) y hy
    · intro y hy
      simp at hy
      subst hy
      omega
theorem zig_range (n : Int) : 0 ≤ zigM (clampM n) ∧ zigM (clampM n) ≤ 2000000000000 := by
  unfold zigM clampM
  split <;> split <;> (try split) <;> omega
theorem putNumM_len (n : Int) : (putNumM n).length ≤ 6 := grp7_len 5 _
theorem putNumM_bytes (n : Int) : BytesB (putNumM n) := by
  have := zig_range n
  exact grp7_bytes 5 _ this.1 (by have h : (2 : Int) ^ (7 * (5 + 1)) = 4398046511104 := by decide
                                  omega)
theorem and127_64 (x : Int) (h0 : 0 ≤ x) (h1 : x < 9223372036854775808) : Go.bits .and .i64 x 127 = x % 128 := by
  have := bits_mask .i64 63 (by decide) hk63 7 (by decide) x h0 (by omega)
  simpa using this
theorem or128 (y : Int) (h0 : 0 ≤ y) (h1 : y < 128) : Go.bits .or .i64 128 y = 128 + y := by
  exact bits_join .i64 63 (by decide) hk63 7 128 y (by decide) (by decide) (by decide) h0 (by omega) (by omega)
def putTextM (s : ByteArray) : List Int := putNumM s.size ++ bytesOf s
theorem putTextM_len (s : ByteArray) : (putTextM s).length ≤ 6 + s.size := by
  unfold putTextM
  have := putNumM_len s.size
  rw [List.length_append, bytesOf_length]; omega
theorem getDG {α : Type} (z : α) (l : List α) (i : Nat) (h : i < l.length) : l.getD ((i : Int)).toNat z = l[i] := by
  simp [List.getD_eq_getElem?_getD, List.getElem?_eq_getElem h]
theorem rdIx2 (l : List S46) (i : Nat) (h : i < l.length) : rd_T46 l (i : Int) = l[i] := getDG _ l i h
mutual
def encT : S46 → List Int
  | ⟨a, b, s, l⟩ => putNumM a ++ (if a = 1 ∨ a = 3 then putNumM b else if a = 2 then putTextM s else putNumM (l.length : Int) ++ encTL l)
def encTL : List S46 → List Int
  | [] => []
  | x :: r => encT x ++ encTL r
end
theorem encTL_drop (l : List S46) (i : Nat) (h : i < l.length) : encTL (l.drop i) = encT l[i] ++ encTL (l.drop (i + 1)) := by
  rw [List.drop_eq_getElem_cons h, encTL]
theorem good_mk {a b : Int} {s : ByteArray} {l : List S46} {n : Nat} (h : goodM ⟨a, b, s, l⟩ n = true) : ∃ m, n = m + 1 ∧ shapeM a b s l = true ∧ goodML l m = true := by
  cases n with
  | zero => rw [goodM] at h; cases h
  | succ m =>
    rw [goodM, Bool.and_eq_true] at h
    exact ⟨m, rfl, h.1, h.2⟩
theorem goodL_mem : ∀ (l : List S46) (n : Nat), goodML l n = true → ∀ y ∈ l, goodM y n = true
  | [], _, _, y, hy => by cases hy
  | x :: r, n, h, y, hy => by
    rw [goodML, Bool.and_eq_true] at h
    rcases List.mem_cons.1 hy with rfl | hy
    · exact h.1
    · exact goodL_mem r n h.2 y hy
theorem noText_eq {s : ByteArray} (h : noText s = true) : s = ⟨#[]⟩ := by
  unfold noText at h
  rw [decide_eq_true_eq, Go.Lib.toList_data] at h
  apply ByteArray.ext
  exact Array.toList_inj.1 h
theorem len0_eq {l : List S46} (h : ((l.length : Int) == 0) = true) : l = [] := by
  rw [beq_iff_eq] at h
  exact List.eq_nil_of_length_eq_zero (by omega)
/-- What a right term of a kind is. -/
theorem shape_cases {a b : Int} {s : ByteArray} {l : List S46} (h : shapeM a b s l = true) :
    (a = 1 ∧ -1000000000000 ≤ b ∧ b ≤ 1000000000000 ∧ s = ⟨#[]⟩ ∧ l = []) ∨ (a = 2 ∧ b = 0 ∧ atomOkM s = true ∧ l = []) ∨ (a = 3 ∧ 0 ≤ b ∧ b ≤ 1000000 ∧ s = ⟨#[]⟩ ∧ l = []) ∨ ((a = 4 ∨ a = 5) ∧ b = 0 ∧ s = ⟨#[]⟩ ∧ l.length ≤ 60) := by
  unfold shapeM at h
  by_cases h1 : a = 1
  · rw [if_pos h1] at h
    simp only [Bool.and_eq_true, decide_eq_true_eq] at h
    exact .inl ⟨h1, h.1.1, h.1.2, noText_eq h.2.1, len0_eq h.2.2⟩
  rw [if_neg h1] at h
  by_cases h2 : a = 2
  · rw [if_pos h2] at h
    simp only [Bool.and_eq_true, decide_eq_true_eq] at h
    exact .inr (.inl ⟨h2, h.2.1, h.1, len0_eq h.2.2⟩)
  rw [if_neg h2] at h
  by_cases h3 : a = 3
  · rw [if_pos h3] at h
    simp only [Bool.and_eq_true, decide_eq_true_eq] at h
    exact .inr (.inr (.inl ⟨h3, h.1.1, h.1.2, noText_eq h.2.1, len0_eq h.2.2⟩))
  rw [if_neg h3] at h
  by_cases h4 : a = 4
  · rw [if_pos h4] at h
    simp only [Bool.and_eq_true, decide_eq_true_eq] at h
    exact .inr (.inr (.inr ⟨.inl h4, h.1, noText_eq h.2.1, by omega⟩))
  rw [if_neg h4] at h
  by_cases h5 : a = 5
  · rw [if_pos h5] at h
    simp only [Bool.and_eq_true, decide_eq_true_eq] at h
    exact .inr (.inr (.inr ⟨.inr h5, h.1, noText_eq h.2.1, by omega⟩))
  rw [if_neg h5] at h
  cases h
theorem atom_size {s : ByteArray} (h : atomOkM s = true) : s.size ≤ 20 := by
  unfold atomOkM at h
  simp only [Bool.and_eq_true, decide_eq_true_eq] at h
  omega
theorem enc_len : ∀ x, ∀ n, goodM x n = true → (encT x).length ≤ 32 * countM x := by
  refine indI (fun a b s l ih n hg => ?_)
  obtain ⟨m, rfl, hs, hl⟩ := good_mk hg
  rw [encT, countM, List.length_append]
  have h1 := putNumM_len a
  have h2 := putNumM_len b
  have h3 := putNumM_len (l.length : Int)
  have hL : ∀ (l : List S46), (∀ y ∈ l, (encT y).length ≤ 32 * countM y) → (encTL l).length ≤ 32 * countML l := by
    intro l
    induction l with
    | nil => intro _; rw [encTL, countML]; simp
    | cons x r ihr =>
      intro h
      have q1 := h x List.mem_cons_self
      have q2 := ihr (fun y hy => h y (List.mem_cons_of_mem _ hy))
      rw [encTL, countML, List.length_append]
      omega
  have h4 := hL l (fun y hy => ih y hy m (goodL_mem l m hl y hy))
  by_cases c1 : a = 1 ∨ a = 3
  · rw [if_pos c1]; omega
  rw [if_neg c1]
  by_cases c2 : a = 2
  · rw [if_pos c2]
    rcases shape_cases hs with h | h | h | h
    · omega
    · have := putTextM_len s
      have := atom_size h.2.2.1
      omega
    · omega
    · omega
  · rw [if_neg c2, List.length_append]
    omega
mutual
theorem enc_bytes : ∀ x, BytesB (encT x)
  | ⟨a, b, s, l⟩ => by
    rw [encT]
    intro y hy
    rcases List.mem_append.1 hy with hy | hy
    · exact putNumM_bytes a y hy
    · split at hy
      · exact putNumM_bytes b y hy
      · split at hy
        · unfold putTextM at hy
          rcases List.mem_append.1 hy with hy | hy
          · exact putNumM_bytes _ y hy
          · unfold bytesOf at hy
            obtain ⟨c, _, rfl⟩ := List.mem_map.1 hy
            have := c.toNat_lt
            omega
        · rcases List.mem_append.1 hy with hy | hy
          · exact putNumM_bytes _ y hy
          · exact encL_bytes l y hy
theorem encL_bytes : ∀ l, BytesB (encTL l)
  | [] => by intro y hy; rw [encTL] at hy; cases hy
  | x :: r => by
    intro y hy
    rw [encTL] at hy
    rcases List.mem_append.1 hy with hy | hy
    · exact enc_bytes x y hy
    · exact encL_bytes r y hy
end
theorem impl_putNum_l0 (n : Nat) : ∀ (l : List Int) (x : Int), (l.length : Int) + n ≤ 4194304 → 0 ≤ x → x < 2 ^ (7 * (n + 1)) → n ≤ 5 → Ev (fun k => impl_putNum.l0 k l x) (l ++ grp7 n x) := by
  induction n with
  | zero =>
    intro l x hl h0 h1 _
    have h2 : (2 : Int) ^ (7 * (0 + 1)) = 128 := by decide
    refine Ev.step (f := fun _ => some (l ++ [x])) (fun k => ?_) (Ev.now _)
    simp only [impl_putNum.l0]
    rw [if_neg (by omega), if_pos (by omega), show x % 256 = x from by omega]
  | succ n ih =>
    intro l x hl h0 h1 hn
    have hp : (2 : Int) ^ (7 * (n + 1 + 1)) = 2 ^ (7 * (n + 1)) * 128 := by
      rw [show 7 * (n + 1 + 1) = 7 * (n + 1) + 7 from by omega, Int.pow_add]
      rfl
    have hq : (2 : Int) ^ (7 * (n + 1 + 1)) ≤ 4398046511104 := by
      have : n = 0 ∨ n = 1 ∨ n = 2 ∨ n = 3 ∨ n = 4 := by omega
      rcases this with rfl | rfl | rfl | rfl | rfl <;> decide
    by_cases h : x > 127
    · have := ih (l ++ [x % 128 + 128]) (x / 128) (by simp; omega) (by omega) (by rw [hp] at h1; omega) (by omega)
      refine Ev.step (fun k => ?_) (ev_cast ?_ this)
      · simp only [impl_putNum.l0]
        rw [if_pos h, if_pos (by omega), and127_64 x h0 (by omega), or128 _ (by omega) (by omega), show (128 + x % 128) % 256 = x % 128 + 128 from by omega]
      · simp [grp7, h]
    · refine Ev.step (f := fun _ => some (l ++ [x])) (fun k => ?_) (ev_cast ?_ (Ev.now _))
      · simp only [impl_putNum.l0]
        rw [if_neg h, if_pos (by omega), show x % 256 = x from by omega]
      · simp [grp7, h]
theorem mx_clamp (n : Int) : mx (-1000000000000) (mn n 1000000000000) = clampM n := by
  unfold mx mn clampM
  split <;> split <;> (try split) <;> (try split) <;> omega
theorem impl_putNum_ev (l : List Int) (hl : (l.length : Int) ≤ 4194200) (n : Int) : Ev (fun k => impl_putNum.f k l n) (l ++ putNumM n) := by
  have hz := zig_range n
  have h5 : (2 : Int) ^ (7 * (5 + 1)) = 4398046511104 := by decide
  have e := impl_putNum_l0 5 l (zigM (clampM n)) (by omega) hz.1 (by omega) (by omega)
  have e2 : Ev (fun k => impl_putNum.j0 k l (zigM (clampM n))) (l ++ putNumM n) := Ev.step (fun k => by simp only [impl_putNum.j0]) e
  unfold impl_putNum.f
  rw [mx_clamp]
  generalize clampM n = c at *
  unfold zigM at e2
  by_cases hn : c < 0
  · rw [if_pos hn] at e2
    exact ev_pos hn e2
  · rw [if_neg hn] at e2
    exact ev_neg hn e2
theorem impl_putText_ev (l : List Int) (s : ByteArray) (hl : (l.length : Int) ≤ 2097152) (hs : (s.size : Int) ≤ 1048576) : Ev (fun k => impl_putText.f k l s) (l ++ putTextM s) := by
  unfold impl_putText.f
  have hp := putNumM_len s.size
  refine Ev.bind (impl_putNum_ev l (by omega) _) (ev_pos (by rw [List.length_append]; omega) (ev_cast ?_ (Ev.now _)))
  unfold putTextM
  rw [List.append_assoc]
theorem impl_putTerm_loop (l : List S46) (hl : (l.length : Int) ≤ 4194304) (n : Nat) (h : ∀ y ∈ l, ∀ l0 : List Int, l0.length + 32 * countM y ≤ 2000000 → Ev (fun k => impl_putTerm.f k l0 y.f0 y.f1 y.f2 y.f3) (l0 ++ encT y)) (hlen : ∀ y ∈ l, (encT y).length ≤ 32 * countM y) (d : Nat) :
    ∀ (i : Nat) (l0 : List Int), i + d = l.length → l0.length + 32 * countML (l.drop i) ≤ 2000000 → Ev (fun k => impl_putTerm.l0 k l0 l (l.length : Int) i) (l0 ++ encTL (l.drop i)) := by
  induction d with
  | zero =>
    intro i l0 hi hb
    refine Ev.step (f := fun _ => some l0) (fun k => ?_) (ev_cast ?_ (Ev.now _))
    · simp only [impl_putTerm.l0]; rw [if_neg (by omega)]
    · rw [List.drop_eq_nil_of_le (by omega), encTL, List.append_nil]
  | succ d ih =>
    intro i l0 hi hb
    have hlt : i < l.length := by omega
    rw [List.drop_eq_getElem_cons hlt, countML] at hb
    have hz := hlen l[i] (List.getElem_mem hlt)
    refine Ev.step (f := fun k => (impl_putTerm.f k l0 l[i].f0 l[i].f1 l[i].f2 l[i].f3).bind fun t163 => (impl_putTerm.l0 k t163 l (l.length : Int) (wrap64 ((i : Int) + 1)))) (fun k => ?_) (Ev.bind (h l[i] (List.getElem_mem hlt) l0 (by omega)) ?_)
    · simp only [impl_putTerm.l0]
      rw [if_pos (by omega), if_pos (by omega), if_pos (by omega), rdIx2 l i hlt]
    · rw [w64 _ (by omega) (by omega)]
      refine ev_cast ?_ (ih (i + 1) (l0 ++ encT l[i]) (by omega) (by rw [List.length_append]; omega))
      rw [encTL_drop l i hlt, List.append_assoc]
theorem impl_putTerm_all : ∀ x, ∀ n, goodM x n = true → (budI x : Int) ≤ 4194304 → ∀ l0 : List Int, l0.length + 32 * countM x ≤ 2000000 → Ev (fun k => impl_putTerm.f k l0 x.f0 x.f1 x.f2 x.f3) (l0 ++ encT x) := by
  refine indI (fun a b s l ih n hg hbud l0 hb => ?_)
  obtain ⟨m, rfl, hs, hl⟩ := good_mk hg
  rw [budI_mk] at hbud
  have hll := budIL_len l
  have hna := putNumM_len a
  rw [countM] at hb
  show Ev (fun k => impl_putTerm.f k l0 a b s l) _
  rw [encT, ← List.append_assoc]
  have e0 := impl_putNum_ev l0 (by omega) a
  have key : ∀ q : Bool, (q = true ↔ (a = 1 ∨ a = 3)) → Ev (fun k => impl_putTerm.j0 k (l0 ++ putNumM a) a q a b s l) (l0 ++ putNumM a ++ (if a = 1 ∨ a = 3 then putNumM b else if a = 2 then putTextM s else putNumM (l.length : Int) ++ encTL l)) := by
    intro q hq
    have hx : (l0 ++ putNumM a).length ≤ l0.length + 6 := by rw [List.length_append]; omega
    by_cases c1 : a = 1 ∨ a = 3
    · rw [if_pos c1]
      refine Ev.step (f := fun k => (impl_putNum.f k (l0 ++ putNumM a) b).bind fun t152 => (some t152)) (fun k => ?_) (Ev.bind (impl_putNum_ev _ (by omega) b) (Ev.now _))
      simp only [impl_putTerm.j0]; rw [if_pos (hq.2 c1)]
    · have hq2 : ¬ q = true := fun e => c1 (hq.1 e)
      rw [if_neg c1]
      by_cases c2 : a = 2
      · rw [if_pos c2]
        have hsz : s.size ≤ 20 := by
          rcases shape_cases hs with h | h | h | h
          · omega
          · exact atom_size h.2.2.1
          · omega
          · omega
        refine Ev.step (f := fun k => (impl_putText.f k (l0 ++ putNumM a) s).bind fun t155 => (some t155)) (fun k => ?_) (Ev.bind (impl_putText_ev _ s (by omega) (by omega)) (Ev.now _))
        simp only [impl_putTerm.j0]; rw [if_neg hq2, if_pos c2]
      · rw [if_neg c2]
        have hln := putNumM_len (l.length : Int)
        have hy : (l0 ++ putNumM a ++ putNumM (l.length : Int)).length ≤ l0.length + 12 := by rw [List.length_append]; omega
        refine Ev.step (f := fun k => (impl_putNum.f k (l0 ++ putNumM a) (l.length : Int)).bind fun t158 => (impl_putTerm.l0 k t158 l (l.length : Int) 0)) (fun k => ?_) (Ev.bind (impl_putNum_ev _ (by omega) _) ?_)
        · simp only [impl_putTerm.j0]; rw [if_neg hq2, if_neg c2]
        · rw [← List.append_assoc]
          exact impl_putTerm_loop l (by omega) m (fun y hy l1 h1 => ih y hy m (goodL_mem l m hl y hy) (by have := budI_mem l y hy; omega) l1 h1) (fun y hy => enc_len y m (goodL_mem l m hl y hy)) l.length 0 _ (by omega) (by rw [List.drop_zero]; omega)
  refine Ev.step (f := fun k => (impl_putNum.f k l0 a).bind fun t149 => (if a = 1 then (impl_putTerm.j0 k t149 a (a == 1) a b s l) else (impl_putTerm.j0 k t149 a (a == 3) a b s l))) (fun k => ?_) (Ev.bind e0 ?_)
  · simp only [impl_putTerm.f]
  · by_cases c1 : a = 1
    · refine ev_pos c1 (key _ ?_)
      rw [beq_iff_eq]; omega
    · refine ev_neg c1 (key _ ?_)
      rw [beq_iff_eq]; omega
def putM (x : S46) : List Int := if termOkM x = true then encT x else []
theorem putM_yes {x : S46} (h : termOkM x = true) : encT x = putM x := by unfold putM; rw [if_pos h]
theorem putM_no {x : S46} (h : ¬ termOkM x = true) : [] = putM x := by unfold putM; rw [if_neg h]
theorem termOk_parts {x : S46} (h : termOkM x = true) : goodM x 8 = true ∧ countM x ≤ 300 := by
  unfold termOkM at h
  rw [Bool.and_eq_true, decide_eq_true_eq] at h
  exact h
theorem impl_inRange_eq (a b c : Int) : impl_inRange.f a b c = some (decide (b ≤ a) && decide (a ≤ c)) := by
  unfold impl_inRange.f
  by_cases h : b ≤ a <;> simp [h]
theorem impl_isSmall_eq (c : Int) : impl_isSmall.f c = some (lowB c) := by
  unfold impl_isSmall.f lowB
  by_cases h : 97 ≤ c <;> simp [h]
theorem impl_isFigure_eq (c : Int) : impl_isFigure.f c = some (digB c) := by
  unfold impl_isFigure.f digB
  by_cases h : 48 ≤ c <;> simp [h]
theorem impl_AtomOk_l (s : ByteArray) (hs : s.size ≤ 140737488351232) (d : Nat) : ∀ i : Nat, i + d = s.size → Ev (fun k => impl_AtomOk.l0 k s i) (atomFrom s i && (decide (1 ≤ (s.size : Int)) && decide ((s.size : Int) ≤ 20))) := by
  induction d with
  | zero =>
    intro i hi
    refine Ev.step (f := fun _ => some (decide (1 ≤ (s.size : Int)) && decide ((s.size : Int) ≤ 20))) (fun k => ?_) (ev_cast ?_ (Ev.now _))
    · simp only [impl_AtomOk.l0]
      rw [if_neg (by omega), impl_inRange_eq]; rfl
    · rw [atomFrom_end s i (by omega)]; rfl
  | succ d ih =>
    intro i hi
    have hlt : i < s.size := by omega
    have hn := ih (i + 1) (by omega)
    rw [atomFrom_step s i hlt]
    by_cases h1 : lowB (bt s i) = true
    · refine Ev.step (fun k => ?_) (ev_cast ?_ hn)
      · simp only [impl_AtomOk.l0]
        rw [if_pos (by omega), if_pos (by omega), impl_isSmall_eq]
        simp only [Option.bind_some]
        rw [if_pos h1, w64 _ (by omega) (by omega)]
        rfl
      · rw [h1]; rfl
    · have h1' : lowB (bt s i) = false := by simpa using h1
      by_cases h0 : i = 0
      · refine Ev.step (f := fun _ => some false) (fun k => ?_) (ev_cast ?_ (Ev.now _))
        · simp only [impl_AtomOk.l0]
          rw [if_pos (by omega), if_pos (by omega), impl_isSmall_eq]
          simp only [Option.bind_some]
          rw [if_neg h1, if_pos (by omega)]
        · rw [h1']; simp [h0]
      · by_cases h2 : digB (bt s i) = true
        · refine Ev.step (fun k => ?_) (ev_cast ?_ hn)
          · simp only [impl_AtomOk.l0]
            rw [if_pos (by omega), if_pos (by omega), impl_isSmall_eq]
            simp only [Option.bind_some]
            rw [if_neg h1, if_neg (by omega), impl_isFigure_eq]
            simp only [Option.bind_some]
            rw [if_pos h2, w64 _ (by omega) (by omega)]
            rfl
          · rw [h2]; simp [h0]
        · have h2' : digB (bt s i) = false := by simpa using h2
          by_cases h3 : bt s i = 95
          · refine Ev.step (fun k => ?_) (ev_cast ?_ hn)
            · simp only [impl_AtomOk.l0]
              rw [if_pos (by omega), if_pos (by omega), impl_isSmall_eq]
              simp only [Option.bind_some]
              rw [if_neg h1, if_neg (by omega), impl_isFigure_eq]
              simp only [Option.bind_some]
              rw [if_neg h2, if_pos h3, w64 _ (by omega) (by omega)]
              rfl
            · simp [h0, h3]
          · refine Ev.step (f := fun _ => some false) (fun k => ?_) (ev_cast ?_ (Ev.now _))
            · simp only [impl_AtomOk.l0]
              rw [if_pos (by omega), if_pos (by omega), impl_isSmall_eq]
              simp only [Option.bind_some]
              rw [if_neg h1, if_neg (by omega), impl_isFigure_eq]
              simp only [Option.bind_some]
              rw [if_neg h2, if_neg h3]
            · rw [h1', h2']; simp [h3]
theorem impl_AtomOk_ev (s : ByteArray) (hs : s.size ≤ 140737488351232) : Ev (fun k => impl_AtomOk.f k s) (atomOkM s) := impl_AtomOk_l s hs s.size 0 (by omega)
theorem impl_plainOk_ev (a b : Int) (s : ByteArray) (l : List S46) (hs : s.size ≤ 140737488351232) : Ev (fun k => impl_Term_plainOk.f k a b s l) (shapeM a b s l) := by
  unfold impl_Term_plainOk.f shapeM noText
  by_cases h1 : a = 1
  · rw [if_pos h1]
    refine ev_pos h1 (ev_of ?_)
    rw [impl_inRange_eq]
    simp only [Option.bind_some]
    by_cases p : (decide (-1000000000000 ≤ b) && decide (b ≤ 1000000000000)) = true
    · by_cases q : s.toList = ([] : List UInt8)
      · rw [if_pos p, if_pos q, p, decide_eq_true q]; rfl
      · rw [if_pos p, if_neg q, p, decide_eq_false q]; rfl
    · rw [if_neg p, Bool.eq_false_iff.mpr p]; rfl
  rw [if_neg h1]
  refine ev_neg h1 ?_
  by_cases h2 : a = 2
  · rw [if_pos h2]
    refine ev_pos h2 ?_
    by_cases q : b = 0
    · refine ev_pos q (Ev.bind (impl_AtomOk_ev s hs) ?_)
      cases hA : atomOkM s with
      | true => exact ev_pos rfl (ev_cast (by rw [decide_eq_true q]; rfl) (Ev.now _))
      | false => exact ev_neg (by decide) (Ev.now _)
    · exact ev_neg q (ev_cast (by rw [decide_eq_false q]; simp) (Ev.now _))
  rw [if_neg h2]
  refine ev_neg h2 (ev_of ?_)
  by_cases h3 : a = 3
  · rw [if_pos h3, if_pos h3, impl_inRange_eq]
    simp only [Option.bind_some]
    by_cases p : (decide (0 ≤ b) && decide (b ≤ 1000000)) = true
    · by_cases q : s.toList = ([] : List UInt8)
      · rw [if_pos p, if_pos q, p, decide_eq_true q]; rfl
      · rw [if_pos p, if_neg q, p, decide_eq_false q]; rfl
    · rw [if_neg p, Bool.eq_false_iff.mpr p]; rfl
  rw [if_neg h3, if_neg h3]
  by_cases h4 : a = 4
  · rw [if_pos h4, if_pos h4]
    by_cases p : b = 0
    · by_cases q : s.toList = ([] : List UInt8)
      · rw [if_pos p, if_pos q, decide_eq_true p, decide_eq_true q]; rfl
      · rw [if_pos p, if_neg q, decide_eq_true p, decide_eq_false q]; rfl
    · rw [if_neg p, decide_eq_false p]; rfl
  rw [if_neg h4, if_neg h4]
  by_cases h5 : a = 5
  · rw [if_pos h5, if_pos h5]
    by_cases p : b = 0
    · by_cases q : s.toList = ([] : List UInt8)
      · rw [if_pos p, if_pos q, decide_eq_true p, decide_eq_true q]; rfl
      · rw [if_pos p, if_neg q, decide_eq_true p, decide_eq_false q]; rfl
    · rw [if_neg p, decide_eq_false p]; rfl
  · rw [if_neg h5, if_neg h5]
def measRes (n0 : Nat) (g : Bool) (c : Nat) : Int := if g = true ∧ n0 + c ≤ 300 then ((n0 + c : Nat) : Int) else 301
theorem impl_measure_loop (l : List S46) (hl : (budIL l : Int) ≤ 4194304) (n : Nat) (dp : Int) (hd : dp + n = 8) (hd1 : 1 ≤ dp)
    (h : ∀ y ∈ l, Ev (fun k => impl_Term_measure.f k y.f0 y.f1 y.f2 y.f3 (dp + 1)) (measRes 0 (goodM y n) (countM y))) (d : Nat) :
    ∀ (i : Nat) (m : Nat), i + d = l.length → m ≤ 300 → Ev (fun k => impl_Term_measure.l0 k dp m l (l.length : Int) i) (measRes m (goodML (l.drop i) n) (countML (l.drop i))) := by
  have hlen := budIL_len l
  induction d with
  | zero =>
    intro i m hi hm
    refine Ev.step (f := fun _ => some (m : Int)) (fun k => ?_) (ev_cast ?_ (Ev.now _))
    · simp only [impl_Term_measure.l0]; rw [if_neg (by omega)]
    · rw [List.drop_eq_nil_of_le (by omega), goodML, countML]
      unfold measRes; rw [if_pos ⟨rfl, by omega⟩]; rfl
  | succ d ih =>
    intro i m hi hm
    have hlt : i < l.length := by omega
    have e := h _ (rdI_mem l i hlt)
    rw [dropI l i hlt, goodML, countML]
    generalize hy : rd_T46 l i = y at *
    refine Ev.step (f := fun k => (impl_Term_measure.f k y.f0 y.f1 y.f2 y.f3 (dp + 1)).bind fun t => (if (wrap64 ((m : Int) + t)) > 300 then (some 301) else (impl_Term_measure.l0 k dp (wrap64 ((m : Int) + t)) l (l.length : Int) (wrap64 ((i : Int) + 1))))) (fun k => ?_) (Ev.bind e ?_)
    · simp only [impl_Term_measure.l0]; rw [if_pos (by omega), if_pos (by omega), if_pos (by omega), hy, w64 (dp + 1) (by omega) (by omega)]
    · have hr : 0 ≤ measRes 0 (goodM y n) (countM y) ∧ measRes 0 (goodM y n) (countM y) ≤ 301 := by
        unfold measRes; split <;> omega
      rw [w64 _ (by omega) (by omega), w64 _ (by omega) (by omega)]
      cases hg : goodM y n with
      | false =>
        refine ev_pos (by unfold measRes; simp; omega) (ev_cast ?_ (Ev.now _))
        unfold measRes; simp
      | true =>
        by_cases hq : countM y ≤ 300
        · have hv : measRes 0 true (countM y) = countM y := by unfold measRes; rw [if_pos ⟨rfl, by omega⟩]; omega
          rw [hv]
          by_cases hq2 : (m : Int) + countM y > 300
          · refine ev_pos hq2 (ev_cast ?_ (Ev.now _))
            unfold measRes; rw [if_neg (by omega)]
          · refine ev_neg hq2 ?_
            have := ih (i + 1) (m + countM y) (by omega) (by omega)
            rw [show ((m + countM y : Nat) : Int) = (m : Int) + countM y from by omega] at this
            refine ev_cast ?_ this
            unfold measRes
            rw [Bool.true_and]
            cases goodML (l.drop (i + 1)) n with
            | false => simp
            | true =>
              by_cases hq3 : m + countM y + countML (l.drop (i + 1)) ≤ 300
              · rw [if_pos ⟨rfl, hq3⟩, if_pos ⟨rfl, by omega⟩]; omega
              · rw [if_neg (by omega), if_neg (by omega)]
        · have hv : measRes 0 true (countM y) = 301 := by unfold measRes; rw [if_neg (by omega)]
          rw [hv]
          refine ev_pos (by omega) (ev_cast ?_ (Ev.now _))
          unfold measRes; rw [if_neg (by omega)]
theorem impl_measure_all : ∀ x, (budI x : Int) ≤ 4194304 → ∀ (n : Nat) (dp : Int), dp + n = 9 → 1 ≤ dp → Ev (fun k => impl_Term_measure.f k x.f0 x.f1 x.f2 x.f3 dp) (measRes 0 (goodM x n) (countM x)) := by
  refine indI ?_
  intro a b s l ih hb n dp hd h1
  rw [budI] at hb
  simp only []
  have no : Ev (fun k => impl_Term_measure.j0 k dp true a b s l) 301 := Ev.step (f := fun _ => some 301) (fun k => by simp [impl_Term_measure.j0]) (Ev.now _)
  cases n with
  | zero =>
    refine Ev.step (fun k => ?_) (ev_cast ?_ no)
    · simp only [impl_Term_measure.f]; rw [if_pos (by omega)]
    · rw [goodM]; unfold measRes; simp
  | succ n =>
    rw [goodM, countM]
    refine Ev.step (f := fun k => (impl_Term_plainOk.f k a b s l).bind fun t => (impl_Term_measure.j0 k dp (!t) a b s l)) (fun k => ?_) (Ev.bind (impl_plainOk_ev a b s l (by omega)) ?_)
    · simp only [impl_Term_measure.f]; rw [if_neg (by omega)]
    cases hsh : shapeM a b s l with
    | false => exact ev_cast (by unfold measRes; simp) no
    | true =>
      have e := impl_measure_loop l (by omega) n dp (by omega) h1 (fun y hy => ih y hy (by have := budI_mem l y hy; omega) n (dp + 1) (by omega) (by omega)) l.length 0 1 (by omega) (by omega)
      refine Ev.step (fun k => ?_) (ev_cast ?_ e)
      · simp only [impl_Term_measure.j0]; rw [if_neg (by decide)]; rfl
      · rw [List.drop_zero, Bool.true_and]
        unfold measRes
        rw [Nat.zero_add]
theorem impl_TermOk_ev (x : S46) (hb : (budI x : Int) ≤ 4194304) : Ev (fun k => impl_TermOk.f k x.f0 x.f1 x.f2 x.f3) (termOkM x) := by
  unfold impl_TermOk.f
  refine Ev.bind (impl_measure_all x hb 8 1 (by omega) (by omega)) (ev_cast ?_ (Ev.now _))
  unfold termOkM measRes
  cases goodM x 8 with
  | false => simp
  | true =>
    by_cases hq : countM x ≤ 300
    · rw [if_pos ⟨rfl, by omega⟩, decide_eq_true hq]; simp; omega
    · rw [if_neg (by omega), decide_eq_false hq]; rfl
theorem impl_PutTerm_ev (x : S46) (hb : (budI x : Int) ≤ 4194304) : Ev (fun k => impl_PutTerm.f k x.f0 x.f1 x.f2 x.f3) (putM x) := by
  unfold impl_PutTerm.f
  refine Ev.bind (impl_TermOk_ev x hb) ?_
  by_cases h : termOkM x = true
  · obtain ⟨h1, h2⟩ := termOk_parts h
    refine ev_cast (putM_yes h) (ev_pos h (Ev.bind ?_ (Ev.now _)))
    have := impl_putTerm_all x 8 h1 hb [] (by simp; omega)
    exact this
  · exact ev_cast (putM_no h) (ev_neg h (Ev.now _))
theorem spec_l1In_eq (a b c : Int) : spec_l1In.f a b c = some (decide (b ≤ a) && decide (a ≤ c)) := by
  unfold spec_l1In.f
  by_cases h : b ≤ a <;> simp [h]
theorem spec_AtomOk_l (s : ByteArray) (hs : s.size ≤ 140737488351232) (d : Nat) : ∀ i : Nat, i + d = s.size → Ev (fun k => spec_AtomOk.l0 k s i) (atomFrom s i && (decide (1 ≤ (s.size : Int)) && decide ((s.size : Int) ≤ 20))) := by
  induction d with
  | zero =>
    intro i hi
    refine Ev.step (f := fun _ => some (decide (1 ≤ (s.size : Int)) && decide ((s.size : Int) ≤ 20))) (fun k => ?_) (ev_cast ?_ (Ev.now _))
    · simp only [spec_AtomOk.l0]
      rw [if_neg (by omega), spec_l1In_eq]; rfl
    · rw [atomFrom_end s i (by omega)]; rfl
  | succ d ih =>
    intro i hi
    have hlt : i < s.size := by omega
    have hn := ih (i + 1) (by omega)
    rw [atomFrom_step s i hlt]
    by_cases h1 : lowB (bt s i) = true
    · refine Ev.step (fun k => ?_) (ev_cast ?_ hn)
      · simp only [spec_AtomOk.l0]
        rw [if_pos (by omega), if_pos (by omega), wbt, spec_l1In_eq]
        simp only [Option.bind_some]
        unfold lowB at h1
        rw [if_pos h1, w64 _ (by omega) (by omega)]
        rfl
      · rw [h1]; rfl
    · have h1' : lowB (bt s i) = false := by simpa using h1
      by_cases h0 : i = 0
      · refine Ev.step (f := fun _ => some false) (fun k => ?_) (ev_cast ?_ (Ev.now _))
        · simp only [spec_AtomOk.l0]
          rw [if_pos (by omega), if_pos (by omega), wbt, spec_l1In_eq]
          simp only [Option.bind_some]
          unfold lowB at h1
          rw [if_neg h1, if_pos (by omega)]
        · rw [h1']; simp [h0]
      · by_cases h2 : digB (bt s i) = true
        · refine Ev.step (fun k => ?_) (ev_cast ?_ hn)
          · simp only [spec_AtomOk.l0]
            rw [if_pos (by omega), if_pos (by omega), wbt, spec_l1In_eq]
            simp only [Option.bind_some]
            unfold lowB at h1; unfold digB at h2
            rw [if_neg h1, if_neg (by omega), spec_l1In_eq]
            simp only [Option.bind_some]
            rw [if_pos h2, w64 _ (by omega) (by omega)]
            rfl
          · rw [h2]; simp [h0]
        · have h2' : digB (bt s i) = false := by simpa using h2
          by_cases h3 : bt s i = 95
          · refine Ev.step (fun k => ?_) (ev_cast ?_ hn)
            · simp only [spec_AtomOk.l0]
              rw [if_pos (by omega), if_pos (by omega), wbt, spec_l1In_eq]
              simp only [Option.bind_some]
              unfold lowB at h1; unfold digB at h2
              rw [if_neg h1, if_neg (by omega), spec_l1In_eq]
              simp only [Option.bind_some]
              rw [if_neg h2, if_pos h3, w64 _ (by omega) (by omega)]
              rfl
            · simp [h0, h3]
          · refine Ev.step (f := fun _ => some false) (fun k => ?_) (ev_cast ?_ (Ev.now _))
            · simp only [spec_AtomOk.l0]
              rw [if_pos (by omega), if_pos (by omega), wbt, spec_l1In_eq]
              simp only [Option.bind_some]
              unfold lowB at h1; unfold digB at h2
              rw [if_neg h1, if_neg (by omega), spec_l1In_eq]
              simp only [Option.bind_some]
              rw [if_neg h2, if_neg h3]
            · rw [h1', h2']; simp [h3]
theorem spec_AtomOk_ev (s : ByteArray) (hs : s.size ≤ 140737488351232) : Ev (fun k => spec_AtomOk.f k s) (atomOkM s) := spec_AtomOk_l s hs s.size 0 (by omega)
theorem spec_l2Shape_ev (a b : Int) (s : ByteArray) (l : List S46) (hs : s.size ≤ 140737488351232) : Ev (fun k => spec_l2Shape.f k a b s l) (shapeM a b s l) := by
  unfold spec_l2Shape.f shapeM noText
  by_cases h1 : a = 1
  · rw [if_pos h1]
    refine ev_pos h1 (ev_of ?_)
    rw [spec_l1In_eq]
    simp only [Option.bind_some]
    by_cases p : (decide (-1000000000000 ≤ b) && decide (b ≤ 1000000000000)) = true
    · by_cases q : s.toList = ([] : List UInt8)
      · rw [if_pos p, if_pos q, p, decide_eq_true q]; rfl
      · rw [if_pos p, if_neg q, p, decide_eq_false q]; rfl
    · rw [if_neg p, Bool.eq_false_iff.mpr p]; rfl
  rw [if_neg h1]
  refine ev_neg h1 ?_
  by_cases h2 : a = 2
  · rw [if_pos h2]
    refine ev_pos h2 (Ev.bind (spec_AtomOk_ev s hs) ?_)
    cases hA : atomOkM s with
    | true =>
      by_cases q : b = 0
      · exact ev_pos rfl (ev_pos q (ev_cast (by rw [decide_eq_true q]; rfl) (Ev.now _)))
      · exact ev_pos rfl (ev_neg q (ev_cast (by rw [decide_eq_false q]; rfl) (Ev.now _)))
    | false => exact ev_neg (by decide) (Ev.now _)
  rw [if_neg h2]
  refine ev_neg h2 (ev_of ?_)
  by_cases h3 : a = 3
  · rw [if_pos h3, if_pos h3, spec_l1In_eq]
    simp only [Option.bind_some]
    by_cases p : (decide (0 ≤ b) && decide (b ≤ 1000000)) = true
    · by_cases q : s.toList = ([] : List UInt8)
      · rw [if_pos p, if_pos q, p, decide_eq_true q]; rfl
      · rw [if_pos p, if_neg q, p, decide_eq_false q]; rfl
    · rw [if_neg p, Bool.eq_false_iff.mpr p]; rfl
  rw [if_neg h3, if_neg h3]
  by_cases h4 : a = 4
  · rw [if_pos h4, if_pos h4]
    by_cases p : b = 0
    · by_cases q : s.toList = ([] : List UInt8)
      · rw [if_pos p, if_pos q, decide_eq_true p, decide_eq_true q]; rfl
      · rw [if_pos p, if_neg q, decide_eq_true p, decide_eq_false q]; rfl
    · rw [if_neg p, decide_eq_false p]; rfl
  rw [if_neg h4, if_neg h4]
  by_cases h5 : a = 5
  · rw [if_pos h5, if_pos h5]
    by_cases p : b = 0
    · by_cases q : s.toList = ([] : List UInt8)
      · rw [if_pos p, if_pos q, decide_eq_true p, decide_eq_true q]; rfl
      · rw [if_pos p, if_neg q, decide_eq_true p, decide_eq_false q]; rfl
    · rw [if_neg p, decide_eq_false p]; rfl
  · rw [if_neg h5, if_neg h5]
def lookRes (left : Int) (g : Bool) (c : Nat) : Int := if g = true ∧ (c : Int) ≤ left then left - c else -1
theorem spec_l2Look_loop (a b : Int) (s : ByteArray) (l : List S46) (hl : (budIL l : Int) ≤ 4194304) (n : Nat) (hn : n ≤ 8)
    (h : ∀ y ∈ l, ∀ left : Int, -1 ≤ left → left ≤ 300 → Ev (fun k => spec_l2Look.f k y.f0 y.f1 y.f2 y.f3 n left) (lookRes left (goodM y n) (countM y))) (d : Nat) :
    ∀ (i : Nat) (left : Int), i + d = l.length → -1 ≤ left → left ≤ 300 → Ev (fun k => spec_l2Look.l0 k (n + 1 : Int) left i a b s l) (if left = -1 then -1 else lookRes left (goodML (l.drop i) n) (countML (l.drop i))) := by
  have hlen := budIL_len l
  induction d with
  | zero =>
    intro i left hi h0 h1
    refine Ev.step (f := fun _ => some left) (fun k => ?_) (ev_cast ?_ (Ev.now _))
    · simp only [spec_l2Look.l0]; rw [if_neg (by omega)]
    · rw [List.drop_eq_nil_of_le (by omega), goodML, countML]
      by_cases hm : left = -1
      · rw [if_pos hm]; exact hm
      · rw [if_neg hm]; unfold lookRes; rw [if_pos ⟨rfl, by omega⟩]; omega
  | succ d ih =>
    intro i left hi h0 h1
    have hlt : i < l.length := by omega
    by_cases hm : left = -1
    · refine Ev.step (f := fun _ => some left) (fun k => ?_) (ev_cast ?_ (Ev.now _))
      · simp only [spec_l2Look.l0]; rw [if_pos (by omega), if_neg (by omega)]
      · rw [if_pos hm]; exact hm
    rw [if_neg hm]
    have e := h _ (rdI_mem l i hlt) left h0 h1
    rw [dropI l i hlt, goodML, countML]
    generalize hy : rd_T46 l i = y at *
    refine Ev.step (f := fun k => (spec_l2Look.f k y.f0 y.f1 y.f2 y.f3 n left).bind fun t => (spec_l2Look.l0 k (n + 1 : Int) t (wrap64 ((i : Int) + 1)) a b s l)) (fun k => ?_) (Ev.bind e ?_)
    · simp only [spec_l2Look.l0]; rw [if_pos (by omega), if_pos (by omega), if_pos (by omega), hy, w64 ((n : Int) + 1 - 1) (by omega) (by omega), show (n : Int) + 1 - 1 = n from by omega]
    · rw [w64 _ (by omega) (by omega)]
      have hr : -1 ≤ lookRes left (goodM y n) (countM y) ∧ lookRes left (goodM y n) (countM y) ≤ 300 := by
        unfold lookRes; split <;> omega
      refine ev_cast ?_ (ih (i + 1) _ (by omega) hr.1 hr.2)
      have hc := count_pos y
      cases hg : goodM y n with
      | false =>
        have hv : lookRes left false (countM y) = -1 := by unfold lookRes; simp
        rw [hv, if_pos rfl]
        unfold lookRes; simp
      | true =>
        by_cases hq : (countM y : Int) ≤ left
        · have hv : lookRes left true (countM y) = left - countM y := by unfold lookRes; rw [if_pos ⟨rfl, hq⟩]
          rw [hv, if_neg (by omega), Bool.true_and]
          unfold lookRes
          cases hg2 : goodML (l.drop (i + 1)) n with
          | false => simp
          | true =>
            by_cases hq2 : (countML (l.drop (i + 1)) : Int) ≤ left - countM y
            · rw [if_pos ⟨rfl, hq2⟩, if_pos ⟨rfl, by omega⟩]; omega
            · rw [if_neg (by omega), if_neg (by omega)]
        · have hv : lookRes left true (countM y) = -1 := by unfold lookRes; rw [if_neg (by omega)]
          rw [hv, if_pos rfl]
          unfold lookRes
          rw [if_neg (by omega)]
theorem spec_l2Look_all : ∀ x, (budI x : Int) ≤ 4194304 → ∀ (n : Nat), n ≤ 8 → ∀ left : Int, -1 ≤ left → left ≤ 300 → Ev (fun k => spec_l2Look.f k x.f0 x.f1 x.f2 x.f3 n left) (lookRes left (goodM x n) (countM x)) := by
  refine indI ?_
  intro a b s l ih hb n hn left h0 h1
  rw [budI] at hb
  simp only []
  have no : Ev (fun k => spec_l2Look.j0 k (n : Int) left true a b s l) (-1) := Ev.step (f := fun _ => some (-1)) (fun k => by simp [spec_l2Look.j0]) (Ev.now _)
  cases n with
  | zero =>
    refine Ev.step (fun k => ?_) (ev_cast ?_ no)
    · simp only [spec_l2Look.f]; rw [if_pos (by omega)]
    · rw [goodM]; unfold lookRes; simp
  | succ n =>
    rw [goodM, countM]
    by_cases hl1 : left < 1
    · refine Ev.step (fun k => ?_) (ev_cast ?_ no)
      · simp only [spec_l2Look.f]; rw [if_neg (by omega), if_pos hl1]
      · unfold lookRes; rw [if_neg (by omega)]
    refine Ev.step (f := fun k => (spec_l2Shape.f k a b s l).bind fun t => (spec_l2Look.j0 k ((n + 1 : Nat) : Int) left (!t) a b s l)) (fun k => ?_) (Ev.bind (spec_l2Shape_ev a b s l (by omega)) ?_)
    · simp only [spec_l2Look.f]; rw [if_neg (by omega), if_neg hl1]
    cases hsh : shapeM a b s l with
    | false => exact ev_cast (by unfold lookRes; simp) no
    | true =>
      have e := spec_l2Look_loop a b s l (by omega) n (by omega) (fun y hy left h0 h1 => ih y hy (by have := budI_mem l y hy; omega) n (by omega) left h0 h1) l.length 0 (left - 1) (by omega) (by omega) (by omega)
      refine Ev.step (fun k => ?_) (ev_cast ?_ e)
      · simp only [spec_l2Look.j0]; rw [if_neg (by decide), w64 _ (by omega) (by omega)]; rfl
      · rw [if_neg (by omega), List.drop_zero, Bool.true_and]
        unfold lookRes
        cases goodML l n with
        | false => simp
        | true =>
          by_cases hq : (countML l : Int) ≤ left - 1
          · rw [if_pos ⟨rfl, hq⟩, if_pos ⟨rfl, by omega⟩]; omega
          · rw [if_neg (by omega), if_neg (by omega)]
theorem spec_TermOk_ev (x : S46) (hb : (budI x : Int) ≤ 4194304) : Ev (fun k => spec_TermOk.f k x.f0 x.f1 x.f2 x.f3) (termOkM x) := by
  unfold spec_TermOk.f
  refine Ev.bind (spec_l2Look_all x hb 8 (by omega) 300 (by omega) (by omega)) (ev_cast ?_ (Ev.now _))
  unfold termOkM lookRes
  cases goodM x 8 with
  | false => simp
  | true =>
    by_cases hq : countM x ≤ 300
    · rw [if_pos ⟨rfl, by omega⟩, decide_eq_true hq]; simp; omega
    · rw [if_neg (by omega), decide_eq_false hq]; rfl
theorem impl_GetNum_l (l : List Int) (hb : BytesB l) (hl : (l.length : Int) ≤ 1048576) (a : Int) (ha : 0 ≤ a) (hal : a < l.length) (n : Nat) :
    ∀ (i : Nat) (x : Int), i + n = 6 → 0 ≤ x → x < 2 ^ (7 * i) → Ev (fun k => impl_GetNum.l0 k l (a + i) x i) (numFin a (numM n i x (l.drop (a.toNat + i)))) := by
  induction n with
  | zero =>
    intro i x hi hx0 hx
    refine Ev.step (f := fun k => impl_GetNum.j1 k l (a + i) x i false) (fun k => ?_) (Ev.step (f := fun _ => some (0, 0, false)) (fun k => ?_) (Ev.now _))
    · simp only [impl_GetNum.l0]; rw [if_neg (by omega)]
    · simp [impl_GetNum.j1]
  | succ n ih =>
    intro i x hi hx0 hx
    by_cases hlt : a + i < l.length
    · refine Ev.step (f := fun k => impl_GetNum.j1 k l (a + i) x i true) (fun k => ?_) ?_
      · simp only [impl_GetNum.l0]; rw [if_pos (by omega)]; simp [hlt]
      have hr := hb.at_ (a + i)
      have e2 : wrap64 (rd l (a + i)) = rd l (a + i) := w64 _ (by omega) (by omega)
      have e3 := grp x (rd l (a + i)) i (by omega) hx0 hx hr.1 hr.2
      have e4 : 0 ≤ IntKind.u64.wrap (wrap64 (7 * (i : Int))) := by rw [wrapU7 i (by omega)]; omega
      obtain ⟨hp1, hp2, hp3⟩ := p7 i (by omega)
      have hd : l.drop (a.toNat + i) = rd l (a + i) :: l.drop (a.toNat + (i + 1)) := by
        rw [drop_rd l _ (by omega), show ((a.toNat + i : Nat) : Int) = a + i from by omega]; rfl
      have hb' : 0 ≤ rd l (a + i) % 128 ∧ rd l (a + i) % 128 ≤ 127 := by omega
      have hq0 : 0 ≤ rd l (a + i) % 128 * 2 ^ (7 * i) := Int.mul_nonneg hb'.1 (by omega)
      have hq1 : rd l (a + i) % 128 * 2 ^ (7 * i) ≤ 127 * 2 ^ (7 * i) := Int.mul_le_mul_of_nonneg_right hb'.2 (by omega)
      have e5 : wrap64 (a + (i : Int) + 1) = a + ((i + 1 : Nat) : Int) := by rw [w64 _ (by omega) (by omega)]; omega
      rw [hd]
      generalize hc : rd l (a + i) = c at *
      generalize hX : x + c % 128 * 2 ^ (7 * i) = X at *
      have hX0 : 0 ≤ X := by omega
      have hX1 : X < 128 * 2 ^ (7 * i) := by omega
      by_cases h1 : c > 127
      · have := ih (i + 1) X (by omega) hX0 (by rw [hp3]; exact hX1)
        refine Ev.step (fun k => ?_) (ev_cast ?_ this)
        · simp only [impl_GetNum.j1]
          rw [hc, e2, e3, if_pos trivial, if_pos (by omega), if_pos hlt, if_pos e4, if_pos (by omega), e5, w64 ((i : Int) + 1) (by omega) (by omega)]
          rfl
        · simp [numM, h1, hX]
      · have em : Int.tmod X 2 = X % 2 := Int.tmod_eq_emod_of_nonneg hX0
        have ed : wrap64 (Int.tdiv X 2) = X / 2 := by rw [Int.tdiv_eq_ediv_of_nonneg hX0, w64 _ (by omega) (by omega)]
        have en : X % 2 = 1 → wrap64 (Int.tdiv (wrap64 (-(wrap64 (X + 1)))) 2) = -(X / 2) - 1 := by
          intro ho
          rw [w64 (X + 1) (by omega) (by omega), w64 (-(X + 1)) (by omega) (by omega), Int.neg_tdiv, Int.tdiv_eq_ediv_of_nonneg (by omega), w64 _ (by omega) (by omega)]
          omega
        by_cases h2 : c = 0 ∧ 0 < i
        · refine Ev.step (f := fun _ => some (0, 0, false)) (fun k => ?_) (ev_cast ?_ (Ev.now _))
          · simp only [impl_GetNum.j1]
            rw [hc, e2, e3, if_pos trivial, if_pos (by omega), if_pos hlt, if_pos e4, if_neg (by omega)]
            have h2' : (i : Int) > 0 := by omega
            simp only [if_pos h2', if_pos h2.1, ite_self]
          · simp [numM, h1, h2, numFin]
        · refine Ev.step (f := fun _ => some (numFin a (some (X, i + 1)))) (fun k => ?_) (ev_cast ?_ (Ev.now _))
          · simp only [impl_GetNum.j1]
            rw [hc, e2, e3, if_pos trivial, if_pos (by omega), if_pos hlt, if_pos e4, if_neg (by omega), em, e5, ed]
            simp only [impl_inRange_eq, Option.bind_some, numFin]
            by_cases h3 : X % 2 = 1
            · have hz : -(X / 2) - 1 = zag X := by unfold zag; rw [if_pos h3]
              rw [if_pos h3, en h3, hz]
              by_cases h4 : c = 0
              · rw [if_pos h4, if_neg (by omega)]
                simp only [Bool.and_eq_true, decide_eq_true_eq]
                split <;> rfl
              · rw [if_neg h4]
                simp only [Bool.and_eq_true, decide_eq_true_eq]
                split <;> rfl
            · have hz : X / 2 = zag X := by unfold zag; rw [if_neg h3]
              rw [if_neg h3, hz]
              by_cases h4 : c = 0
              · rw [if_pos h4, if_neg (by omega)]
                simp only [Bool.and_eq_true, decide_eq_true_eq]
                split <;> rfl
              · rw [if_neg h4]
                simp only [Bool.and_eq_true, decide_eq_true_eq]
                split <;> rfl
          · simp only [numM]
            rw [if_neg h1, if_neg h2, hX]
    · refine Ev.step (f := fun k => impl_GetNum.j1 k l (a + i) x i false) (fun k => ?_) (Ev.step (f := fun _ => some (0, 0, false)) (fun k => ?_) (ev_cast ?_ (Ev.now _)))
      · simp only [impl_GetNum.l0]; rw [if_pos (by omega)]; simp [hlt]
      · simp [impl_GetNum.j1]
      · rw [List.drop_eq_nil_of_le (by omega)]; rfl
theorem impl_GetNum_ev (l : List Int) (hb : BytesB l) (hl : (l.length : Int) ≤ 1048576) (a : Int) : Ev (fun k => impl_GetNum.f k l a) (getNumM l a) := by
  unfold impl_GetNum.f getNumM
  rw [impl_inRange_eq, w64 _ (by omega) (by omega)]
  simp only [Option.bind_some]
  by_cases h : 0 ≤ a ∧ a < l.length
  · rw [if_pos h]
    refine ev_pos (by simp; omega) ?_
    have := impl_GetNum_l l hb hl a h.1 h.2 6 0 0 rfl (by decide) (by decide)
    simpa using this
  · rw [if_neg h]
    exact ev_neg (by simp; omega) (Ev.now _)
theorem numM_len : ∀ (n i : Nat) (x : Int) (t : List Int) (m : Int) (c : Nat), numM n i x t = some (m, c) → i < c ∧ c ≤ i + t.length := by
  intro n
  induction n with
  | zero => intro i x t m c h; simp [numM] at h
  | succ n ih =>
    intro i x t m c h
    cases t with
    | nil => simp [numM] at h
    | cons b r =>
      simp only [numM] at h
      split at h
      · have := ih _ _ _ _ _ h
        simp only [List.length_cons]; omega
      · split at h
        · cases h
        · simp only [Option.some.injEq, Prod.mk.injEq] at h
          simp only [List.length_cons]; omega
theorem getNumM_ok (l : List Int) (a : Int) (h : (getNumM l a).2.2 = true) : 0 ≤ a ∧ a < (getNumM l a).2.1 ∧ (getNumM l a).2.1 ≤ l.length ∧ -1000000000000 ≤ (getNumM l a).1 ∧ (getNumM l a).1 ≤ 1000000000000 := by
  unfold getNumM at h ⊢
  split at h
  · rename_i ha
    rw [if_pos ha]
    cases hn : numM 6 0 0 (l.drop a.toNat) with
    | none => rw [hn] at h; cases h
    | some p =>
      obtain ⟨m, c⟩ := p
      rw [hn] at h
      have hc := numM_len _ _ _ _ _ _ hn
      rw [List.length_drop] at hc
      simp only [numFin] at h ⊢
      split at h
      · rename_i hr
        rw [if_pos hr]
        refine ⟨ha.1, ?_, ?_, hr.1, hr.2⟩ <;> simp only [] <;> omega
      · cases h
  · cases h
def getTextM (l : List Int) (a : Int) : ByteArray × Int × Bool :=
  let r := getNumM l a
  if r.2.2 = true ∧ 0 ≤ r.1 ∧ r.1 ≤ l.length - r.2.1 then (strOfNums ((l.take (r.2.1 + r.1).toNat).drop r.2.1.toNat), r.2.1 + r.1, true) else ((⟨#[]⟩ : ByteArray), 0, false)
theorem impl_GetText_ev (l : List Int) (hb : BytesB l) (hl : (l.length : Int) ≤ 1048576) (a : Int) : Ev (fun k => impl_GetText.f k l a) (getTextM l a) := by
  unfold impl_GetText.f
  refine Ev.bind (impl_GetNum_ev l hb hl a) ?_
  unfold getTextM
  cases hok : (getNumM l a).2.2 with
  | false => exact ev_neg (by decide) (ev_cast (by rw [if_neg (by rw [hok]; simp)]) (Ev.now _))
  | true =>
    obtain ⟨h0, h1, h2, h3, h4⟩ := getNumM_ok l a hok
    generalize getNumM l a = r at *
    obtain ⟨n, p, ok⟩ := r
    simp only at h0 h1 h2 h3 h4 hok ⊢
    subst hok
    refine ev_pos trivial ?_
    rw [w64 _ (by omega) (by omega), w64 (p + n) (by omega) (by omega)]
    by_cases h5 : n < 0
    · exact ev_pos h5 (ev_cast (by rw [if_neg (by omega)]) (Ev.now _))
    · refine ev_neg h5 ?_
      by_cases h6 : n > (l.length : Int) - p
      · exact ev_pos h6 (ev_cast (by rw [if_neg (by omega)]) (Ev.now _))
      · refine ev_neg h6 (ev_pos (by omega) (ev_pos (by omega) (ev_pos (by omega) (ev_cast ?_ (Ev.now _)))))
        rw [if_pos ⟨rfl, by omega, by omega⟩]
theorem zag_zig (c : Int) : zag (zigM c) = c := by
  unfold zag zigM
  by_cases h : c < 0
  · rw [if_pos h, if_pos (by omega)]; omega
  · rw [if_neg h, if_neg (by omega)]; omega
theorem numM_grp7 (n : Nat) : ∀ (i : Nat) (acc x : Int) (rest : List Int), 0 ≤ x → x < 2 ^ (7 * (n + 1)) → (i = 0 ∨ 0 < x) →
    numM (n + 1) i acc (grp7 n x ++ rest) = some (acc + x * 2 ^ (7 * i), i + (grp7 n x).length) := by
  induction n with
  | zero =>
    intro i acc x rest h0 h1 hi
    have h2 : (2 : Int) ^ (7 * (0 + 1)) = 128 := by decide
    simp only [grp7, List.cons_append, List.nil_append, numM]
    rw [if_neg (by omega), if_neg (by omega), show x % 128 = x from by omega]
    simp
  | succ n ih =>
    intro i acc x rest h0 h1 hi
    have hp : (2 : Int) ^ (7 * (n + 1 + 1)) = 2 ^ (7 * (n + 1)) * 128 := by
      rw [show 7 * (n + 1 + 1) = 7 * (n + 1) + 7 from by omega, Int.pow_add]
      rfl
    unfold grp7
    by_cases h : x > 127
    · rw [if_pos h]
      simp only [List.cons_append]
      rw [numM, if_pos (by omega), ih (i + 1) _ (x / 128) rest (by omega) (by rw [hp] at h1; omega) (by omega)]
      have hq : (2 : Int) ^ (7 * (i + 1)) = 128 * 2 ^ (7 * i) := by
        rw [show 7 * (i + 1) = 7 * i + 7 from by omega, Int.pow_add, Int.mul_comm]
        rfl
      rw [hq, List.length_cons, show (x % 128 + 128) % 128 = x % 128 from by omega]
      have hx : x = x % 128 + 128 * (x / 128) := by omega
      have hm : x * 2 ^ (7 * i) = x % 128 * 2 ^ (7 * i) + x / 128 * (128 * 2 ^ (7 * i)) := by
        conv => lhs; rw [hx]
        rw [Int.add_mul, Int.mul_comm 128 (x / 128), Int.mul_assoc]
      congr 1
      rw [Prod.mk.injEq]
      exact ⟨by omega, by omega⟩
    · rw [if_neg h]
      simp only [List.cons_append, List.nil_append, numM]
      rw [if_neg (by omega), if_neg (by omega), show x % 128 = x from by omega]
      simp
theorem clamp_range (n : Int) : -1000000000000 ≤ clampM n ∧ clampM n ≤ 1000000000000 := by
  unfold clampM
  split
  · omega
  · split <;> omega
theorem drop_append_len (b t : List Int) : (b ++ t).drop ((b.length : Int)).toNat = t := by
  rw [Int.toNat_natCast, List.drop_left]
theorem putNumM_pos (n : Int) : 0 < (putNumM n).length := by
  unfold putNumM grp7
  split <;> simp
theorem get_put (b : List Int) (n : Int) (rest : List Int) : getNumM (b ++ putNumM n ++ rest) b.length = (clampM n, ((b ++ putNumM n).length : Int), true) := by
  have hz := zig_range n
  have hc := clamp_range n
  have h5 : (2 : Int) ^ (7 * (5 + 1)) = 4398046511104 := by decide
  have hpos := putNumM_pos n
  have hlen : ((b ++ putNumM n ++ rest).length : Int) = b.length + (putNumM n).length + rest.length := by simp only [List.length_append]; omega
  unfold getNumM
  rw [if_pos ⟨by omega, by omega⟩, List.append_assoc, drop_append_len]
  have := numM_grp7 5 0 0 (zigM (clampM n)) rest hz.1 (by omega) (.inl rfl)
  rw [show putNumM n = grp7 5 (zigM (clampM n)) from rfl, this]
  simp only [numFin]
  have hx : (0 : Int) + zigM (clampM n) * 2 ^ (7 * 0) = zigM (clampM n) := by simp
  rw [hx, zag_zig, if_pos hc]
  simp only [List.length_append, Nat.zero_add]
  congr 2
theorem str_bytes (s : ByteArray) : strOfNums (bytesOf s) = s := by
  unfold strOfNums bytesOf
  congr 1
  apply Array.ext'
  simp [Function.comp_def]
theorem getter_num_put (P : List Int) (n : Int) (R : List Int) (hn : -1000000000000 ≤ n ∧ n ≤ 1000000000000) (hb : BytesB (P ++ putNumM n ++ R)) (hl : ((P ++ putNumM n ++ R).length : Int) ≤ 1048576) :
    Ev (fun k => impl_getter_num.f k (P ++ putNumM n ++ R) (P.length : Int) false) (n, ((P ++ putNumM n).length : Int), false) := by
  have hc : clampM n = n := by unfold clampM; rw [if_neg (by omega), if_neg (by omega)]
  have e := impl_GetNum_ev (P ++ putNumM n ++ R) hb hl (P.length : Int)
  rw [get_put P n R, hc] at e
  unfold impl_getter_num.f
  exact Ev.bind e (ev_neg (by decide) (ev_pos rfl (Ev.now _)))
theorem get_puttext2 (b : List Int) (s : ByteArray) (R : List Int) (hs : (s.size : Int) ≤ 1000000000000) : getTextM (b ++ putTextM s ++ R) b.length = (s, ((b ++ putTextM s).length : Int), true) := by
  have hc : clampM (s.size : Int) = s.size := by unfold clampM; rw [if_neg (by omega), if_neg (by omega)]
  have hg := get_put b (s.size : Int) (bytesOf s ++ R)
  rw [hc] at hg
  have e1 : b ++ putTextM s ++ R = b ++ putNumM (s.size : Int) ++ (bytesOf s ++ R) := by unfold putTextM; simp
  have hl : (((b ++ putNumM (s.size : Int) ++ (bytesOf s ++ R)).length : Nat) : Int) = ((b ++ putNumM (s.size : Int)).length : Int) + s.size + R.length := by
    simp only [List.length_append, bytesOf_length]; omega
  have hl2 : (((b ++ putTextM s).length : Nat) : Int) = ((b ++ putNumM (s.size : Int)).length : Int) + s.size := by
    unfold putTextM
    simp only [List.length_append, bytesOf_length]; omega
  unfold getTextM
  rw [e1, hg]
  simp only []
  rw [if_pos ⟨trivial, by omega, by omega⟩, hl2]
  have e2 : (((b ++ putNumM (s.size : Int) ++ (bytesOf s ++ R)).take ((((b ++ putNumM (s.size : Int)).length : Int) + s.size)).toNat).drop (((b ++ putNumM (s.size : Int)).length : Int)).toNat) = bytesOf s := by
    rw [Int.toNat_natCast]
    have e3 : ((((b ++ putNumM (s.size : Int)).length : Int) + s.size)).toNat = (b ++ putNumM (s.size : Int)).length + s.size := by omega
    rw [e3, List.drop_take, List.drop_left, Nat.add_sub_cancel_left, List.take_append_of_le_length (by rw [bytesOf_length]; omega), List.take_of_length_le (by rw [bytesOf_length]; omega)]
  rw [e2, str_bytes]
theorem getter_text_put (P : List Int) (s : ByteArray) (R : List Int) (hs : (s.size : Int) ≤ 1000000) (hb : BytesB (P ++ putTextM s ++ R)) (hl : ((P ++ putTextM s ++ R).length : Int) ≤ 1048576) :
    Ev (fun k => impl_getter_text.f k (P ++ putTextM s ++ R) (P.length : Int) false) (s, ((P ++ putTextM s).length : Int), false) := by
  have e := impl_GetText_ev (P ++ putTextM s ++ R) hb hl (P.length : Int)
  rw [get_puttext2 P s R (by omega)] at e
  unfold impl_getter_text.f
  exact Ev.bind e (ev_neg (by decide) (ev_pos rfl (Ev.now _)))
theorem getter_count_put (P : List Int) (n : Nat) (R : List Int) (hn : n ≤ 60) (hb : BytesB (P ++ putNumM (n : Int) ++ R)) (hl : ((P ++ putNumM (n : Int) ++ R).length : Int) ≤ 1048576) :
    Ev (fun k => impl_getter_count.f k (P ++ putNumM (n : Int) ++ R) (P.length : Int) false 60) ((n : Int), ((P ++ putNumM (n : Int)).length : Int), false) := by
  unfold impl_getter_count.f
  refine Ev.bind (getter_num_put P n R (by omega) hb hl) (Ev.bind (ev_of (impl_inRange_eq _ _ _)) ?_)
  refine ev_pos ?_ (Ev.now _)
  simp only [Bool.and_eq_true, decide_eq_true_eq]
  omega
theorem getter_loop (B post : List Int) (hb : BytesB B) (hl : (B.length : Int) ≤ 1048576) (dp a b : Int) (s : ByteArray) (hdp : 1 ≤ dp ∧ dp ≤ 8) (l : List S46) (hll : l.length ≤ 60)
    (h : ∀ y ∈ l, ∀ P R : List Int, B = P ++ encT y ++ R → Ev (fun k => impl_getter_term.f k B (P.length : Int) false (dp + 1)) (y.f0, y.f1, y.f2, y.f3, ((P ++ encT y).length : Int), false)) (d : Nat) :
    ∀ (i : Nat) (P : List Int), i + d = l.length → B = P ++ encTL (l.drop i) ++ post → Ev (fun k => impl_getter_term.l0 k dp (l.length : Int) i B (P.length : Int) false a b s (l.take i)) (a, b, s, l, ((P ++ encTL (l.drop i)).length : Int), false) := by
  induction d with
  | zero =>
    intro i P hi hB
    refine Ev.step (f := fun _ => some (a, b, s, l, (P.length : Int), false)) (fun k => ?_) (ev_cast ?_ (Ev.now _))
    · simp only [impl_getter_term.l0]; rw [if_neg (by omega), List.take_of_length_le (by omega)]
    · rw [List.drop_eq_nil_of_le (by omega), encTL, List.append_nil]
  | succ d ih =>
    intro i P hi hB
    have hlt : i < l.length := by omega
    have hB2 : B = P ++ encT l[i] ++ (encTL (l.drop (i + 1)) ++ post) := by rw [hB, encTL_drop l i hlt]; simp
    have hB3 : B = (P ++ encT l[i]) ++ encTL (l.drop (i + 1)) ++ post := by rw [hB2]; simp
    refine Ev.step (f := fun k => (impl_getter_term.f k B (P.length : Int) false (wrap64 (dp + 1))).bind fun bt360 => (if (l.take i).length < 2513169434916 then (impl_getter_term.l0 k dp (l.length : Int) (wrap64 ((i : Int) + 1)) B bt360.2.2.2.2.1 bt360.2.2.2.2.2 a b s (l.take i ++ [(⟨bt360.1, bt360.2.1, bt360.2.2.1, bt360.2.2.2.1⟩ : S46)])) else (none))) (fun k => ?_) ?_
    · simp only [impl_getter_term.l0]
      rw [if_pos (by omega), if_neg (by decide)]
    · rw [w64 (dp + 1) (by omega) (by omega), w64 ((i : Int) + 1) (by omega) (by omega)]
      refine Ev.bind (h l[i] (List.getElem_mem hlt) P _ hB2) (ev_pos (by rw [List.length_take]; omega) ?_)
      have q := ih (i + 1) (P ++ encT l[i]) (by omega) hB3
      rw [encTL_drop l i hlt, ← List.append_assoc]
      refine Ev.congr (fun k => ?_) q
      have e1 : (i : Int) + 1 = ((i + 1 : Nat) : Int) := by omega
      have e2 : (⟨l[i].f0, l[i].f1, l[i].f2, l[i].f3⟩ : S46) = l[i] := etaI _
      rw [List.take_succ_eq_append_getElem hlt, e1, ← e2]
theorem getter_all : ∀ x, ∀ (n : Nat) (dp : Int), goodM x n = true → dp + n = 9 → 1 ≤ dp → ∀ B P R : List Int, BytesB B → (B.length : Int) ≤ 1048576 → B = P ++ encT x ++ R →
    Ev (fun k => impl_getter_term.f k B (P.length : Int) false dp) (x.f0, x.f1, x.f2, x.f3, ((P ++ encT x).length : Int), false) := by
  refine indI (fun a b s l ih n dp hg hdp hd1 B P R hb hl hB => ?_)
  obtain ⟨m, rfl, hs, hgl⟩ := good_mk hg
  show Ev (fun k => impl_getter_term.f k B (P.length : Int) false dp) (a, b, s, l, ((P ++ encT ⟨a, b, s, l⟩).length : Int), false)
  rw [encT] at hB ⊢
  have har : -1000000000000 ≤ a ∧ a ≤ 1000000000000 := by rcases shape_cases hs with h | h | h | h <;> omega
  generalize hrest : (if a = 1 ∨ a = 3 then putNumM b else if a = 2 then putTextM s else putNumM (l.length : Int) ++ encTL l) = rest at hB ⊢
  have hB1 : B = P ++ putNumM a ++ (rest ++ R) := by rw [hB]; simp
  have e0 := getter_num_put P a (rest ++ R) har (hB1 ▸ hb) (hB1 ▸ hl)
  rw [← hB1] at e0
  have hB2 : B = (P ++ putNumM a) ++ rest ++ R := by rw [hB]; simp
  have key : ∀ q : Bool, (q = true ↔ (a = 1 ∨ a = 3)) → Ev (fun k => impl_getter_term.j0 k dp a q B ((P ++ putNumM a).length : Int) false a 0 (⟨#[]⟩ : ByteArray)) (a, b, s, l, ((P ++ putNumM a ++ rest).length : Int), false) := by
    intro q hq
    by_cases c1 : a = 1 ∨ a = 3
    · rw [if_pos c1] at hrest
      subst hrest
      have hx : s = ⟨#[]⟩ ∧ l = [] ∧ -1000000000000 ≤ b ∧ b ≤ 1000000000000 := by
        rcases shape_cases hs with h | h | h | h
        · exact ⟨h.2.2.2.1, h.2.2.2.2, by omega, by omega⟩
        · omega
        · exact ⟨h.2.2.2.1, h.2.2.2.2, by omega, by omega⟩
        · omega
      obtain ⟨rfl, rfl, hb1⟩ := hx
      have e1 := getter_num_put (P ++ putNumM a) b R hb1 (hB2 ▸ hb) (hB2 ▸ hl)
      rw [← hB2] at e1
      refine Ev.step (f := fun k => (impl_getter_num.f k B ((P ++ putNumM a).length : Int) false).bind fun bt351 => (some (a, bt351.1, (⟨#[]⟩ : ByteArray), ([] : List S46), bt351.2.1, bt351.2.2))) (fun k => ?_) (Ev.bind e1 (Ev.now _))
      simp only [impl_getter_term.j0]; rw [if_pos (hq.2 c1)]
    · have hq2 : ¬ q = true := fun e => c1 (hq.1 e)
      rw [if_neg c1] at hrest
      by_cases c2 : a = 2
      · rw [if_pos c2] at hrest
        subst hrest
        have hx : b = 0 ∧ atomOkM s = true ∧ l = [] := by
          rcases shape_cases hs with h | h | h | h
          · omega
          · exact ⟨h.2.1, h.2.2.1, h.2.2.2⟩
          · omega
          · omega
        obtain ⟨rfl, ha, rfl⟩ := hx
        have hsz := atom_size ha
        have e1 := getter_text_put (P ++ putNumM a) s R (by omega) (hB2 ▸ hb) (hB2 ▸ hl)
        rw [← hB2] at e1
        refine Ev.step (f := fun k => (impl_getter_text.f k B ((P ++ putNumM a).length : Int) false).bind fun bt354 => (some (a, 0, bt354.1, ([] : List S46), bt354.2.1, bt354.2.2))) (fun k => ?_) (Ev.bind e1 (Ev.now _))
        simp only [impl_getter_term.j0]; rw [if_neg hq2, if_pos c2]
      · rw [if_neg c2] at hrest
        subst hrest
        have hx : b = 0 ∧ s = ⟨#[]⟩ ∧ l.length ≤ 60 := by
          rcases shape_cases hs with h | h | h | h
          · omega
          · omega
          · omega
          · exact h.2
        obtain ⟨rfl, rfl, hll⟩ := hx
        have hB3 : B = (P ++ putNumM a) ++ putNumM (l.length : Int) ++ (encTL l ++ R) := by rw [hB2]; simp
        have hB4 : B = ((P ++ putNumM a) ++ putNumM (l.length : Int)) ++ encTL (l.drop 0) ++ R := by rw [hB2, List.drop_zero]; simp
        have e1 := getter_count_put (P ++ putNumM a) l.length (encTL l ++ R) hll (hB3 ▸ hb) (hB3 ▸ hl)
        rw [← hB3] at e1
        have e2 := getter_loop B R hb hl dp a 0 ⟨#[]⟩ ⟨hd1, by omega⟩ l hll (fun y hy P2 R2 h2 => ih y hy m (dp + 1) (goodL_mem l m hgl y hy) (by omega) (by omega) B P2 R2 hb hl h2) l.length 0 ((P ++ putNumM a) ++ putNumM (l.length : Int)) (by omega) hB4
        rw [List.drop_zero, List.append_assoc (P ++ putNumM a)] at e2
        refine Ev.step (f := fun k => impl_getter_term.j1 k dp B ((P ++ putNumM a).length : Int) false a 0 (⟨#[]⟩ : ByteArray)) (fun k => ?_) (Ev.step (f := fun k => (impl_getter_count.f k B ((P ++ putNumM a).length : Int) false 60).bind fun bt357 => (impl_getter_term.l0 k dp bt357.1 0 B bt357.2.1 bt357.2.2 a 0 (⟨#[]⟩ : ByteArray) ([] : List S46))) (fun k => ?_) (Ev.bind e1 e2))
        · simp only [impl_getter_term.j0]; rw [if_neg hq2, if_neg c2, if_neg (by omega)]
        · simp only [impl_getter_term.j1]
  refine Ev.step (f := fun k => (impl_getter_num.f k B (P.length : Int) false).bind fun bt347 => (if bt347.1 = 1 then (impl_getter_term.j0 k dp bt347.1 (bt347.1 == 1) B bt347.2.1 bt347.2.2 bt347.1 0 (⟨#[]⟩ : ByteArray)) else (impl_getter_term.j0 k dp bt347.1 (bt347.1 == 3) B bt347.2.1 bt347.2.2 bt347.1 0 (⟨#[]⟩ : ByteArray)))) (fun k => ?_) (Ev.bind e0 ?_)
  · simp only [impl_getter_term.f]
  · rw [← List.append_assoc]
    by_cases c1 : a = 1
    · refine ev_pos c1 (key _ ?_)
      rw [beq_iff_eq]; omega
    · refine ev_neg c1 (key _ ?_)
      rw [beq_iff_eq]; omega
theorem impl_GetTerm_put (x : S46) (hb : (budI x : Int) ≤ 4194304) (hok : termOkM x = true) : Ev (fun k => impl_GetTerm.f k (encT x)) (x.f0, x.f1, x.f2, x.f3, true) := by
  obtain ⟨h1, h2⟩ := termOk_parts hok
  have hlen := enc_len x 8 h1
  have e := getter_all x 8 1 h1 (by omega) (by omega) (encT x) [] [] (enc_bytes x) (by omega) (by simp)
  have e2 := impl_putTerm_all x 8 h1 hb [] (by simp; omega)
  unfold impl_GetTerm.f
  refine Ev.bind e (ev_neg (by simp) (Ev.bind (impl_TermOk_ev x hb) (ev_pos hok (Ev.bind e2 ?_))))
  unfold bytes_Equal.f
  exact Ev.bind (Ev.now _) (ev_pos (by simp) (Ev.now _))
mutual
def sameM : S46 → S46 → Bool
  | ⟨a, b, s, l⟩, y => decide (a = y.f0) && (decide (b = y.f1) && (decide (s.toList = y.f2.toList) && sameML l y.f3))
def sameML : List S46 → List S46 → Bool
  | [], l => l.isEmpty
  | x :: r, l => match l with
    | [] => false
    | y :: r2 => sameM x y && sameML r r2
end
theorem sameML_len : ∀ l m, sameML l m = true → l.length = m.length
  | [], m, h => by rw [sameML] at h; cases m <;> simp_all
  | x :: r, [], h => by rw [sameML] at h; cases h
  | x :: r, y :: r2, h => by
    rw [sameML, Bool.and_eq_true] at h
    rw [List.length_cons, List.length_cons, sameML_len r r2 h.2]
theorem impl_Same_loop (l m : List S46) (hl : (budIL l : Int) ≤ 4194304) (hm : l.length = m.length)
    (h : ∀ y ∈ l, ∀ z, Ev (fun k => impl_SameTerm.f k y.f0 y.f1 y.f2 y.f3 z.f0 z.f1 z.f2 z.f3) (sameM y z)) (d : Nat) : ∀ (i : Nat), i + d = l.length → Ev (fun k => slices_EqualFunc_of_impl_SameTerm.l0 k m l (l.length : Int) i) (sameML (l.drop i) (m.drop i)) := by
  have hlen := budIL_len l
  induction d with
  | zero =>
    intro i hi
    refine Ev.step (f := fun _ => some true) (fun k => ?_) (ev_cast ?_ (Ev.now _))
    · simp only [slices_EqualFunc_of_impl_SameTerm.l0]; rw [if_neg (by omega)]
    · rw [List.drop_eq_nil_of_le (by omega), List.drop_eq_nil_of_le (by omega)]; rfl
  | succ d ih =>
    intro i hi
    have hlt : i < l.length := by omega
    have e := h _ (rdI_mem l i hlt) (rd_T46 m i)
    have hn := ih (i + 1) (by omega)
    rw [dropI l i hlt, dropI m i (by omega), sameML]
    generalize hy : rd_T46 l i = y at *
    generalize hz : rd_T46 m i = z at *
    refine Ev.step (f := fun k => (impl_SameTerm.f k y.f0 y.f1 y.f2 y.f3 z.f0 z.f1 z.f2 z.f3).bind fun t => (if t = true then (slices_EqualFunc_of_impl_SameTerm.l0 k m l (l.length : Int) (wrap64 ((i : Int) + 1))) else (some false))) (fun k => ?_) (Ev.bind e ?_)
    · simp only [slices_EqualFunc_of_impl_SameTerm.l0]; rw [if_pos (by omega), if_pos (by omega), if_pos (by omega), if_pos (by omega), hy, hz]
    · rw [w64 _ (by omega) (by omega)]
      cases hs : sameM y z with
      | true => exact ev_pos rfl hn
      | false => exact ev_neg (by decide) (Ev.now _)
theorem impl_EqualFunc_of (l m : List S46) (hl : (budIL l : Int) ≤ 4194304)
    (h : ∀ y ∈ l, ∀ z, Ev (fun k => impl_SameTerm.f k y.f0 y.f1 y.f2 y.f3 z.f0 z.f1 z.f2 z.f3) (sameM y z)) : Ev (fun k => slices_EqualFunc_of_impl_SameTerm.f k l m) (sameML l m) := by
  by_cases h4 : l.length = m.length
  · refine Ev.step (fun k => ?_) (impl_Same_loop l m hl h4 h l.length 0 (by omega))
    simp only [slices_EqualFunc_of_impl_SameTerm.f]; rw [if_pos (by omega)]; rfl
  · refine Ev.step (f := fun _ => some false) (fun k => ?_) (ev_cast ?_ (Ev.now _))
    · simp only [slices_EqualFunc_of_impl_SameTerm.f]; rw [if_neg (by omega)]
    · cases hs : sameML l m with
      | true => exact absurd (sameML_len l m hs) h4
      | false => rfl
theorem impl_Same_all : ∀ x, (budI x : Int) ≤ 4194304 → ∀ z, Ev (fun k => impl_SameTerm.f k x.f0 x.f1 x.f2 x.f3 z.f0 z.f1 z.f2 z.f3) (sameM x z) := by
  refine indI ?_
  intro a b s l ih hb z
  rw [budI] at hb
  obtain ⟨a2, b2, s2, m⟩ := z
  have e := impl_EqualFunc_of l m (by omega) (fun y hy z => ih y hy (by have := budI_mem l y hy; omega) z)
  rw [sameM]
  simp only []
  by_cases h1 : a = a2
  · by_cases h2 : b = b2
    · by_cases h3 : s.toList = s2.toList
      · refine Ev.step (f := fun k => (slices_EqualFunc_of_impl_SameTerm.f k l m).bind fun t => some t) (fun k => ?_) (Ev.bind e (ev_cast ?_ (Ev.now _)))
        · simp only [impl_SameTerm.f]; rw [if_pos h1, if_pos h2, if_pos h3]
        · simp [h1, h2, h3]
      · refine Ev.step (f := fun _ => some false) (fun k => ?_) (ev_cast ?_ (Ev.now _))
        · simp only [impl_SameTerm.f]; rw [if_pos h1, if_pos h2, if_neg h3]
        · simp [h3]
    · refine Ev.step (f := fun _ => some false) (fun k => ?_) (ev_cast ?_ (Ev.now _))
      · simp only [impl_SameTerm.f]; rw [if_pos h1, if_neg h2]
      · simp [h2]
  · refine Ev.step (f := fun _ => some false) (fun k => ?_) (ev_cast ?_ (Ev.now _))
    · simp only [impl_SameTerm.f]; rw [if_neg h1]
    · simp [h1]
mutual
theorem sameM_refl : ∀ x, sameM x x = true
  | ⟨a, b, s, l⟩ => by rw [sameM, sameML_refl l]; simp
theorem sameML_refl : ∀ l, sameML l l = true
  | [] => by rw [sameML]; rfl
  | x :: r => by rw [sameML, sameM_refl x, sameML_refl r]; rfl
end
theorem FnTerms : laws_FnTerms.Pure := by
  intro l0 hl hl2 hw
  refine Ev.rounds (g := fun k => laws_FnTerms.f k l0) ?_
  unfold laws_FnTerms.f
  rw [laws_big_eq]
  by_cases hb : (l0.length : Int) > 1048576
  · refine Ev.bind (Ev.now _) (ev_pos (decide_eq_true hb) (Ev.now _))
  · refine Ev.bind (Ev.now _) (ev_neg (by simpa using hb) ?_)
    obtain ⟨h, e0⟩ := spec_l1New_ev l0 (by omega)
    obtain ⟨x, i2, h2, e1, hx, c2⟩ := spec_l2Any_ev l0 0 h ⟨by omega, by omega, by omega⟩
    have ed : Ev (fun k => spec_DrawPutTerm.f k l0) (x.f0, x.f1, x.f2, x.f3) := by
      unfold spec_DrawPutTerm.f
      exact Ev.bind e0 (Ev.bind e1 (Ev.now _))
    refine Ev.bind ed (Ev.bind (impl_PutTerm_ev x (by omega)) (Ev.bind (spec_TermOk_ev x (by omega)) ?_))
    by_cases hok : termOkM x = true
    · refine ev_pos hok ?_
      rw [← putM_yes hok]
      refine Ev.bind (impl_GetTerm_put x (by omega) hok) (ev_pos rfl (Ev.bind (impl_Same_all x (by omega) x) (ev_pos (sameM_refl x) (Ev.bind (impl_TermOk_ev x (by omega)) (ev_cast hok (Ev.now _))))))
    · refine ev_neg hok ?_
      rw [← putM_no hok]
      refine ev_pos rfl (Ev.bind (impl_TermOk_ev x (by omega)) (ev_cast (by rw [Bool.eq_false_iff.mpr hok]; rfl) (Ev.now _)))

end Go.Proofs.Ythfiopjabfaejaa.Pure
