/- What the law FnNums of this seat says holds for every input that its row speaks of; no further condition. -/
import Derived.Test.YthfiopjabfaejaaQFnNumsx3
set_option linter.unusedVariables false
set_option linter.unusedSimpArgs false
namespace Go.Proofs.Ythfiopjabfaejaa.Pure
open Go.RowKit Go.Proofs.Ythfiopjabfaejaa.QFnNums Go.Proofs.YthfiopjabfaejaaW.PrintWords Go.Proofs.YthfiopjabfaejaaW.PrintLast Go.Proofs.YthfiopjabfaejaaW.PrintMore

theorem ev_pos {α : Type} {c : Prop} [Decidable c] {A B : Nat → Option α} {r : α} (h : c) (e : Ev A r) : Ev (fun k => if c then A k else B k) r := by
  obtain ⟨K, hK⟩ := e
  exact ⟨K, fun k hk => by simp only [if_pos h]; exact hK k hk⟩
theorem ev_neg {α : Type} {c : Prop} [Decidable c] {A B : Nat → Option α} {r : α} (h : ¬ c) (e : Ev B r) : Ev (fun k => if c then A k else B k) r := by
  obtain ⟨K, hK⟩ := e
  exact ⟨K, fun k hk => by simp only [if_neg h]; exact hK k hk⟩
theorem ev_of {α : Type} {o : Option α} {r : α} (h : o = some r) : Ev (fun _ => o) r := ⟨0, fun _ _ => h⟩
theorem ev_cast {α : Type} {g : Nat → Option α} {r r' : α} (h : r = r') (e : Ev g r) : Ev g r' := h ▸ e
theorem ev_uniq {α : Type} {g : Nat → Option α} {r r' : α} (h : Ev g r) (h' : Ev g r') : r = r' := by
  obtain ⟨K, hK⟩ := h
  obtain ⟨K', hK'⟩ := h'
  have a := hK (max K K') (Nat.le_max_left _ _)
  have b := hK' (max K K') (Nat.le_max_right _ _)
  rw [a] at b
  exact Option.some.inj b
theorem w64 (n : Int) (h0 : -9223372036854775808 ≤ n) (h1 : n ≤ 9223372036854775807) : wrap64 n = n := by unfold wrap64; omega
theorem dec_and (p q : Prop) [Decidable p] [Decidable q] : decide (p ∧ q) = (decide p && decide q) := by
  by_cases hp : p <;> by_cases hq : q <;> simp [hp, hq]
theorem laws_big_eq (l : List Int) : laws_big.f l = some (decide ((l.length : Int) > 1048576)) := rfl
theorem wf_u8 {x : Int} (h : (Lit.int .u8 x).wf = true) : 0 ≤ x ∧ x < 256 := by
  simp [Lit.wf, IntKind.min, IntKind.max, IntKind.bits, IntKind.signed] at h
  omega
theorem wf_i64 {x : Int} (h : (Lit.int .i64 x).wf = true) : -9223372036854775808 ≤ x ∧ x ≤ 9223372036854775807 := by
  simp [Lit.wf, IntKind.min, IntKind.max, IntKind.bits, IntKind.signed] at h
  omega
def BytesB (l : List Int) : Prop := ∀ x ∈ l, 0 ≤ x ∧ x < 256
theorem BytesB.at_ {l : List Int} (h : BytesB l) (i : Int) : 0 ≤ rd l i ∧ rd l i < 256 := by
  unfold rd
  rw [List.getD_eq_getElem?_getD]
  by_cases hi : i.toNat < l.length
  · rw [List.getElem?_eq_getElem hi]; exact h _ (List.getElem_mem hi)
  · rw [List.getElem?_eq_none (by omega)]; decide
theorem drop_rd (l : List Int) (p : Nat) (h : p < l.length) : l.drop p = rd l p :: l.drop (p + 1) := by
  rw [List.drop_eq_getElem_cons h]
  unfold rd
  simp [List.getElem?_eq_getElem h]
theorem hk63 (n : Int) (h0 : 0 ≤ n) (h1 : n < 2 ^ 63) : IntKind.i64.wrap n = n := by
  rw [IntKind.wrap_i64]; omega
theorem or_comm64 (a b : Int) : Go.bits .or .i64 a b = Go.bits .or .i64 b a := by
  unfold Go.bits
  simp only [BitVec.or_comm]
theorem and127 (c : Int) (h0 : 0 ≤ c) (h1 : c < 256) : Go.bits .and .i64 c 127 = c % 128 := by
  have := bits_mask .i64 63 (by decide) hk63 7 (by decide) c h0 (by omega)
  simpa using this
theorem wrapU7 (i : Nat) (hi : i < 6) : IntKind.u64.wrap (wrap64 (7 * (i : Int))) = 7 * (i : Int) := by
  rw [w64 _ (by omega) (by omega)]
  simp [IntKind.wrap, IntKind.bits, IntKind.signed]
  omega
theorem p7 (i : Nat) (hi : i < 6) : (1 : Int) ≤ 2 ^ (7 * i) ∧ (2 : Int) ^ (7 * i) ≤ 34359738368 ∧ (2 : Int) ^ (7 * (i + 1)) = 128 * 2 ^ (7 * i) := by
  have : i = 0 ∨ i = 1 ∨ i = 2 ∨ i = 3 ∨ i = 4 ∨ i = 5 := by omega
  rcases this with rfl | rfl | rfl | rfl | rfl | rfl <;> decide
theorem grp (x c : Int) (i : Nat) (hi : i < 6) (hx0 : 0 ≤ x) (hx : x < 2 ^ (7 * i)) (hc0 : 0 ≤ c) (hc : c < 256) :
    Go.bits .or .i64 x (shl .i64 (Go.bits .and .i64 c 127) (IntKind.u64.wrap (wrap64 (7 * (i : Int))))) = x + (c % 128) * 2 ^ (7 * i) := by
  obtain ⟨hp1, hp2, _⟩ := p7 i hi
  rw [and127 c hc0 hc, wrapU7 i hi]
  unfold shl
  have hm : min (7 * (i : Int)).toNat (IntKind.i64.bits) = 7 * i := by show min _ 64 = _; omega
  have hb : 0 ≤ c % 128 ∧ c % 128 ≤ 127 := by omega
  have hq0 : 0 ≤ c % 128 * 2 ^ (7 * i) := Int.mul_nonneg hb.1 (by omega)
  have hq1 : c % 128 * 2 ^ (7 * i) ≤ 127 * 34359738368 := Int.mul_le_mul hb.2 hp2 (by omega) (by decide)
  rw [hm, hk63 _ hq0 (by omega), or_comm64]
  rw [bits_join .i64 63 (by decide) hk63 (7 * i) _ x hq0 (Int.mul_emod_left _ _) (by omega) hx0 hx (by omega)]
  omega
/-- What stands at a place: groups of seven bits; the number, and how many bytes. -/
def numM : Nat → Nat → Int → List Int → Option (Int × Nat)
  | 0, _, _, _ => none
  | _ + 1, _, _, [] => none
  | n + 1, i, x, c :: r => if c > 127 then numM n (i + 1) (x + (c % 128) * 2 ^ (7 * i)) r else if c = 0 ∧ 0 < i then none else some (x + (c % 128) * 2 ^ (7 * i), i + 1)
def zag (m : Int) : Int := if m % 2 = 1 then -(m / 2) - 1 else m / 2
def numFin (a : Int) : Option (Int × Nat) → Int × Int × Bool
  | none => (0, 0, false)
  | some (m, c) => if -1000000000000 ≤ zag m ∧ zag m ≤ 1000000000000 then (zag m, a + c, true) else (0, 0, false)
def getNumM (l : List Int) (a : Int) : Int × Int × Bool := if 0 ≤ a ∧ a < l.length then numFin a (numM 6 0 0 (l.drop a.toNat)) else (0, 0, false)
def Cur (b : List Int) (i : Int) : Prop := 0 ≤ i ∧ i ≤ b.length ∧ (b.length : Int) ≤ 1048576
theorem and255 (x : Int) : 0 ≤ Go.bits .and .i64 x 255 ∧ Go.bits .and .i64 x 255 ≤ 255 := by
  have h : Go.bits .and .i64 x 255 = IntKind.i64.wrap (((BitVec.ofInt 64 x) &&& (BitVec.ofInt 64 255)).toNat : Int) := rfl
  have h2 : ((BitVec.ofInt 64 x) &&& (BitVec.ofInt 64 255)).toNat ≤ 255 := by
    rw [BitVec.toNat_and]
    exact Nat.and_le_right
  rw [h, hk63 _ (by omega) (by omega)]
  omega
theorem and30 (x : Int) : 0 ≤ Go.bits .and .i64 x 1073741823 ∧ Go.bits .and .i64 x 1073741823 ≤ 1073741823 := by
  have h : Go.bits .and .i64 x 1073741823 = IntKind.i64.wrap (((BitVec.ofInt 64 x) &&& (BitVec.ofInt 64 1073741823)).toNat : Int) := rfl
  have h2 : ((BitVec.ofInt 64 x) &&& (BitVec.ofInt 64 1073741823)).toNat ≤ 1073741823 := by
    rw [BitVec.toNat_and]
    exact Nat.and_le_right
  rw [h, hk63 _ (by omega) (by omega)]
  omega
theorem spec_l1Byte_eq (b : List Int) (i h : Int) (hc : Cur b i) : ∃ v i2 h2, spec_l1Byte.f b i h = some (v, i2, h2) ∧ 0 ≤ v ∧ v ≤ 255 ∧ Cur b i2 := by
  unfold spec_l1Byte.f
  obtain ⟨h0, h1, h2⟩ := hc
  by_cases hi : i < (b.length : Int)
  · rw [if_pos hi, if_pos h0, w64 (i + 1) (by omega) (by omega)]
    exact ⟨_, _, _, rfl, (and255 _).1, (and255 _).2, by omega, by omega, h2⟩
  · rw [if_neg hi]
    exact ⟨_, _, _, rfl, (and255 _).1, (and255 _).2, h0, h1, h2⟩
theorem spec_l1Bytes_l (b : List Int) (n : Nat) (hn : (n : Int) ≤ 1048576) (d : Nat) : ∀ (j : Nat) (x : List Int) (i h : Int), j + d = n → x.length = j → BytesB x → Cur b i →
    ∃ r i2 h2, Ev (fun k => spec_l1Bytes.l0 k n x j b i h) (r, i2, h2) ∧ r.length = n ∧ BytesB r ∧ Cur b i2 := by
  induction d with
  | zero =>
    intro j x i h hj hx hb hc
    refine ⟨x, i, h, Ev.step (f := fun _ => some (x, i, h)) (fun k => ?_) (Ev.now _), by omega, hb, hc⟩
    simp only [spec_l1Bytes.l0]; rw [if_neg (by omega)]
  | succ d ih =>
    intro j x i h hj hx hb hc
    obtain ⟨v, i2, h2, e, v0, v1, c2⟩ := spec_l1Byte_eq b i h hc
    obtain ⟨r, i3, h3, e3, hr, hbr, c3⟩ := ih (j + 1) (x ++ [v % 256]) i2 h2 (by omega) (by simp [hx]) (by
      intro y hy
      rcases List.mem_append.1 hy with hy | hy
      · exact hb y hy
      · simp at hy; subst hy; omega) c2
    refine ⟨r, i3, h3, Ev.step (fun k => ?_) e3, hr, hbr, c3⟩
    simp only [spec_l1Bytes.l0]; rw [if_pos (by omega), e]
    simp only [Option.bind_some]
    rw [if_pos (by omega), w64 _ (by omega) (by omega)]
    rfl
theorem spec_l1Bytes_ev (b : List Int) (n : Int) (h0 : 0 ≤ n) (hn : n ≤ 1048576) (i h : Int) (hc : Cur b i) : ∃ r i2 h2, Ev (fun k => spec_l1Bytes.f k b i h n) (r, i2, h2) ∧ (r.length : Int) = n ∧ BytesB r ∧ Cur b i2 := by
  obtain ⟨r, i2, h2, e, hr, hb, c⟩ := spec_l1Bytes_l b n.toNat (by omega) n.toNat 0 [] i h (by omega) rfl (fun x hx => by cases hx) hc
  refine ⟨r, i2, h2, ?_, by omega, hb, c⟩
  unfold spec_l1Bytes.f
  rw [show ((n.toNat : Nat) : Int) = n from by omega] at e
  exact e
theorem spec_l1Below_eq (b : List Int) (i h n : Int) (hc : Cur b i) : ∃ v i2 h2, spec_l1Below.f b i h n = some (v, i2, h2) ∧ 0 ≤ v ∧ (0 < n → v < n) ∧ (n ≤ 0 → v = 0) ∧ Cur b i2 := by
  unfold spec_l1Below.f
  by_cases h0 : n ≤ 0
  · rw [if_pos h0]
    exact ⟨0, i, h, rfl, by omega, by omega, fun _ => rfl, hc⟩
  rw [if_neg h0]
  by_cases h1 : n ≤ 256
  · rw [if_pos h1]
    obtain ⟨v, i2, h2, e, v0, v1, c2⟩ := spec_l1Byte_eq b i h hc
    rw [e]
    simp only [Option.bind_some]
    rw [if_neg (by omega)]
    refine ⟨_, _, _, rfl, ?_, fun _ => ?_, by omega, c2⟩
    · rw [Int.tmod_eq_emod_of_nonneg v0]; exact Int.emod_nonneg _ (by omega)
    · rw [Int.tmod_eq_emod_of_nonneg v0]; exact Int.emod_lt_of_pos _ (by omega)
  · rw [if_neg h1]
    obtain ⟨x, i2, h2, e, x0, x1, c2⟩ := spec_l1Byte_eq b i h hc
    rw [e]
    simp only [Option.bind_some]
    obtain ⟨y, i3, h3, e3, y0, y1, c3⟩ := spec_l1Byte_eq b i2 h2 c2
    rw [e3]
    simp only [Option.bind_some]
    obtain ⟨z, i4, h4, e4, z0, z1, c4⟩ := spec_l1Byte_eq b i3 h3 c3
    rw [e4]
    simp only [Option.bind_some]
    rw [if_neg (by omega), w64 (x * 65536) (by omega) (by omega), w64 (y * 256) (by omega) (by omega), w64 (x * 65536 + y * 256) (by omega) (by omega), w64 (x * 65536 + y * 256 + z) (by omega) (by omega)]
    refine ⟨_, _, _, rfl, ?_, fun _ => ?_, by omega, c4⟩
    · rw [Int.tmod_eq_emod_of_nonneg (by omega)]; exact Int.emod_nonneg _ (by omega)
    · rw [Int.tmod_eq_emod_of_nonneg (by omega)]; exact Int.emod_lt_of_pos _ (by omega)
theorem spec_l1Int_eq (b : List Int) (i h : Int) (l : List Int) (hl : 0 < l.length) (hc : Cur b i) : ∃ v i2 h2, spec_l1Int.f b i h l = some (v, i2, h2) ∧ v ∈ l ∧ Cur b i2 := by
  unfold spec_l1Int.f
  obtain ⟨v, i2, h2, e, v0, v1, _, c2⟩ := spec_l1Below_eq b i h l.length hc
  rw [e]
  simp only [Option.bind_some]
  have v2 := v1 (by omega)
  rw [if_pos v0, if_pos v2]
  refine ⟨_, _, _, rfl, ?_, c2⟩
  unfold rd
  have hv : v.toNat < l.length := by omega
  simp [List.getD_eq_getElem?_getD, List.getElem?_eq_getElem hv]
theorem spec_l1Some_ev (b : List Int) (i h : Int) (hc : Cur b i) : ∃ r i2 h2, Ev (fun k => spec_l1Some.f k b i h) (r, i2, h2) ∧ (r.length : Int) ≤ 9 ∧ BytesB r ∧ Cur b i2 := by
  obtain ⟨n, i2, h2, e, hm, c2⟩ := spec_l1Int_eq b i h [0, 1, 2, 5, 9] (by decide) hc
  have hn : 0 ≤ n ∧ n ≤ 9 := by
    simp only [List.mem_cons, List.not_mem_nil, or_false] at hm
    omega
  obtain ⟨r, i3, h3, e3, hr, hb, c3⟩ := spec_l1Bytes_ev b n hn.1 (by omega) i2 h2 c2
  refine ⟨r, i3, h3, ?_, by omega, hb, c3⟩
  unfold spec_l1Some.f
  rw [e]
  simp only [Option.bind_some]
  exact Ev.bind e3 (Ev.now _)
theorem spec_l1New_l (l : List Int) (hl : (l.length : Int) ≤ 1048576) (d : Nat) : ∀ (i : Nat) (h : Int), i + d = l.length → ∃ h2, Ev (fun k => spec_l1New.l0 k l h i) (l, 0, h2) := by
  induction d with
  | zero =>
    intro i h hi
    refine ⟨h, Ev.step (f := fun _ => some (l, 0, h)) (fun k => ?_) (Ev.now _)⟩
    simp only [spec_l1New.l0]; rw [if_neg (by omega)]
  | succ d ih =>
    intro i h hi
    by_cases h4 : (i : Int) < 4000
    · obtain ⟨h2, e⟩ := ih (i + 1) (Go.bits .and .i64 (wrap64 ((wrap64 ((wrap64 (h * 137)) + (wrap64 (rd l i)))) + 11)) 1073741823) (by omega)
      refine ⟨h2, Ev.step (fun k => ?_) e⟩
      simp only [spec_l1New.l0]; rw [if_pos (by omega), if_pos h4, if_pos (by omega), w64 ((i : Int) + 1) (by omega) (by omega)]
      rfl
    · refine ⟨h, Ev.step (f := fun _ => some (l, 0, h)) (fun k => ?_) (Ev.now _)⟩
      simp only [spec_l1New.l0]; rw [if_pos (by omega), if_neg h4]
theorem spec_l1New_ev (l : List Int) (hl : (l.length : Int) ≤ 1048576) : ∃ h, Ev (fun k => spec_l1New.f k l) (l, 0, h) := spec_l1New_l l hl l.length 0 _ (by omega)
theorem spec_DrawPutNum_ev (l : List Int) (hl : (l.length : Int) ≤ 1048576) : ∃ r n, Ev (fun k => spec_DrawPutNum.f k l) (r, n) ∧ (r.length : Int) ≤ 9 ∧ BytesB r := by
  obtain ⟨h, e⟩ := spec_l1New_ev l hl
  have c : Cur l 0 := ⟨by omega, by omega, hl⟩
  obtain ⟨r, i2, h2, e2, hr, hb, c2⟩ := spec_l1Some_ev l 0 h c
  obtain ⟨v, i3, h3, e3, v0, v1, _, c3⟩ := spec_l1Below_eq l i2 h2 100000 c2
  obtain ⟨n, i4, h4, e4, _, c4⟩ := spec_l1Int_eq l i3 h3 [0, 1, (-1), 63, 64, (-64), (-65), 8192, 1000000000000, (-1000000000000), 1000000000001, (-9223372036854775808), 9223372036854775807, v] (by simp) c3
  refine ⟨r, n, ?_, hr, hb⟩
  unfold spec_DrawPutNum.f
  refine Ev.bind e (Ev.bind e2 (Ev.bind (ev_of e3) (Ev.bind (ev_of e4) (Ev.now _))))
theorem spec_DrawPutText_ev (l : List Int) (hl : (l.length : Int) ≤ 1048576) : ∃ r s, Ev (fun k => spec_DrawPutText.f k l) (r, s) ∧ (r.length : Int) ≤ 9 ∧ BytesB r ∧ (s.size : Int) ≤ 9 := by
  obtain ⟨h, e⟩ := spec_l1New_ev l hl
  have c : Cur l 0 := ⟨by omega, by omega, hl⟩
  obtain ⟨r, i2, h2, e2, hr, hb, c2⟩ := spec_l1Some_ev l 0 h c
  obtain ⟨r3, i3, h3, e3, hr3, hb3, c3⟩ := spec_l1Some_ev l i2 h2 c2
  refine ⟨r, strOfNums r3, ?_, hr, hb, ?_⟩
  · unfold spec_DrawPutText.f
    exact Ev.bind e (Ev.bind e2 (Ev.bind e3 (Ev.now _)))
  · unfold strOfNums
    have : (⟨(r3.map fun n => UInt8.ofNat n.toNat).toArray⟩ : ByteArray).size = r3.length := by
      show ((r3.map fun n => UInt8.ofNat n.toNat).toArray).size = _
      simp
    omega
def grp7 : Nat → Int → List Int
  | 0, x => [x]
  | n + 1, x => if x > 127 then (x % 128 + 128) :: grp7 n (x / 128) else [x]
def clampM (n : Int) : Int := if n < -1000000000000 then -1000000000000 else if n > 1000000000000 then 1000000000000 else n
def zigM (c : Int) : Int := if c < 0 then -2 * c - 1 else 2 * c
def putNumM (n : Int) : List Int := grp7 5 (zigM (clampM n))
theorem grp7_len (n : Nat) : ∀ x, (grp7 n x).length ≤ n + 1 := by
  induction n with
  | zero => intro x; simp [grp7]
  | succ n ih =>
    intro x
    unfold grp7
    split
    · have := ih (x / 128); simp only [List.length_cons]; omega
    · simp
theorem grp7_bytes (n : Nat) : ∀ x, 0 ≤ x → x < 2 ^ (7 * (n + 1)) → BytesB (grp7 n x) := by
  induction n with
  | zero =>
    intro x h0 h1
    intro y hy
    simp [grp7] at hy
    subst hy
    have : (2 : Int) ^ (7 * (0 + 1)) = 128 := by decide
    omega
  | succ n ih =>
    intro x h0 h1
    have hp : (2 : Int) ^ (7 * (n + 1 + 1)) = 2 ^ (7 * (n + 1)) * 128 := by
      rw [show 7 * (n + 1 + 1) = 7 * (n + 1) + 7 from by omega, Int.pow_add]
      rfl
    unfold grp7
    split
    · rename_i h
      intro y hy
      rcases List.mem_cons.1 hy with rfl | hy
      · omega
      · exact ih (x / 128) (by omega) (by rw [hp] at h1; omega) y hy
    · intro y hy
      simp at hy
      subst hy
      omega
theorem zig_range (n : Int) : 0 ≤ zigM (clampM n) ∧ zigM (clampM n) ≤ 2000000000000 := by
  unfold zigM clampM
  split <;> split <;> (try split) <;> omega
theorem putNumM_len (n : Int) : (putNumM n).length ≤ 6 := grp7_len 5 _
theorem putNumM_bytes (n : Int) : BytesB (putNumM n) := by
  have := zig_range n
  exact grp7_bytes 5 _ this.1 (by have h : (2 : Int) ^ (7 * (5 + 1)) = 4398046511104 := by decide
                                  omega)
theorem and127_64 (x : Int) (h0 : 0 ≤ x) (h1 : x < 9223372036854775808) : Go.bits .and .i64 x 127 = x % 128 := by
  have := bits_mask .i64 63 (by decide) hk63 7 (by decide) x h0 (by omega)
  simpa using this
theorem or128 (y : Int) (h0 : 0 ≤ y) (h1 : y < 128) : Go.bits .or .i64 128 y = 128 + y := by
  exact bits_join .i64 63 (by decide) hk63 7 128 y (by decide) (by decide) (by decide) h0 (by omega) (by omega)
theorem impl_putNum_l0 (n : Nat) : ∀ (l : List Int) (x : Int), (l.length : Int) + n ≤ 4194304 → 0 ≤ x → x < 2 ^ (7 * (n + 1)) → n ≤ 5 → Ev (fun k => impl_putNum.l0 k l x) (l ++ grp7 n x) := by
  induction n with
  | zero =>
    intro l x hl h0 h1 _
    have h2 : (2 : Int) ^ (7 * (0 + 1)) = 128 := by decide
    refine Ev.step (f := fun _ => some (l ++ [x])) (fun k => ?_) (Ev.now _)
    simp only [impl_putNum.l0]
    rw [if_neg (by omega), if_pos (by omega), show x % 256 = x from by omega]
  | succ n ih =>
    intro l x hl h0 h1 hn
    have hp : (2 : Int) ^ (7 * (n + 1 + 1)) = 2 ^ (7 * (n + 1)) * 128 := by
      rw [show 7 * (n + 1 + 1) = 7 * (n + 1) + 7 from by omega, Int.pow_add]
      rfl
    have hq : (2 : Int) ^ (7 * (n + 1 + 1)) ≤ 4398046511104 := by
      have : n = 0 ∨ n = 1 ∨ n = 2 ∨ n = 3 ∨ n = 4 := by omega
      rcases this with rfl | rfl | rfl | rfl | rfl <;> decide
    by_cases h : x > 127
    · have := ih (l ++ [x % 128 + 128]) (x / 128) (by simp; omega) (by omega) (by rw [hp] at h1; omega) (by omega)
      refine Ev.step (fun k => ?_) (ev_cast ?_ this)
      · simp only [impl_putNum.l0]
        rw [if_pos h, if_pos (by omega), and127_64 x h0 (by omega), or128 _ (by omega) (by omega), show (128 + x % 128) % 256 = x % 128 + 128 from by omega]
      · simp [grp7, h]
    · refine Ev.step (f := fun _ => some (l ++ [x])) (fun k => ?_) (ev_cast ?_ (Ev.now _))
      · simp only [impl_putNum.l0]
        rw [if_neg h, if_pos (by omega), show x % 256 = x from by omega]
      · simp [grp7, h]
theorem mx_clamp (n : Int) : mx (-1000000000000) (mn n 1000000000000) = clampM n := by
  unfold mx mn clampM
  split <;> split <;> (try split) <;> (try split) <;> omega
theorem impl_putNum_ev (l : List Int) (hl : (l.length : Int) ≤ 4194200) (n : Int) : Ev (fun k => impl_putNum.f k l n) (l ++ putNumM n) := by
  have hz := zig_range n
  have h5 : (2 : Int) ^ (7 * (5 + 1)) = 4398046511104 := by decide
  have e := impl_putNum_l0 5 l (zigM (clampM n)) (by omega) hz.1 (by omega) (by omega)
  have e2 : Ev (fun k => impl_putNum.j0 k l (zigM (clampM n))) (l ++ putNumM n) := Ev.step (fun k => by simp only [impl_putNum.j0]) e
  unfold impl_putNum.f
  rw [mx_clamp]
  generalize clampM n = c at *
  unfold zigM at e2
  by_cases hn : c < 0
  · rw [if_pos hn] at e2
    exact ev_pos hn e2
  · rw [if_neg hn] at e2
    exact ev_neg hn e2
theorem slices_Clone_byte_eq (l : List Int) (hl : (l.length : Int) ≤ 4194304) : slices_Clone_byte_byte.f l = some l := by
  unfold slices_Clone_byte_byte.f
  simp only [Option.bind_some, List.nil_append]
  rw [if_pos (by simp; omega)]
theorem impl_PutNum_ev (l : List Int) (hl : (l.length : Int) ≤ 4194200) (n : Int) : Ev (fun k => impl_PutNum.f k l n) (l ++ putNumM n) := by
  unfold impl_PutNum.f
  rw [slices_Clone_byte_eq l (by omega)]
  exact Ev.bind (Ev.now _) (Ev.bind (impl_putNum_ev l hl n) (Ev.now _))
theorem impl_inRange_eq (a b c : Int) : impl_inRange.f a b c = some (decide (b ≤ a) && decide (a ≤ c)) := by
  unfold impl_inRange.f
  by_cases h : b ≤ a <;> simp [h]
theorem impl_GetNum_l (l : List Int) (hb : BytesB l) (hl : (l.length : Int) ≤ 1048576) (a : Int) (ha : 0 ≤ a) (hal : a < l.length) (n : Nat) :
    ∀ (i : Nat) (x : Int), i + n = 6 → 0 ≤ x → x < 2 ^ (7 * i) → Ev (fun k => impl_GetNum.l0 k l (a + i) x i) (numFin a (numM n i x (l.drop (a.toNat + i)))) := by
  induction n with
  | zero =>
    intro i x hi hx0 hx
    refine Ev.step (f := fun k => impl_GetNum.j1 k l (a + i) x i false) (fun k => ?_) (Ev.step (f := fun _ => some (0, 0, false)) (fun k => ?_) (Ev.now _))
    · simp only [impl_GetNum.l0]; rw [if_neg (by omega)]
    · simp [impl_GetNum.j1]
  | succ n ih =>
    intro i x hi hx0 hx
    by_cases hlt : a + i < l.length
    · refine Ev.step (f := fun k => impl_GetNum.j1 k l (a + i) x i true) (fun k => ?_) ?_
      · simp only [impl_GetNum.l0]; rw [if_pos (by omega)]; simp [hlt]
      have hr := hb.at_ (a + i)
      have e2 : wrap64 (rd l (a + i)) = rd l (a + i) := w64 _ (by omega) (by omega)
      have e3 := grp x (rd l (a + i)) i (by omega) hx0 hx hr.1 hr.2
      have e4 : 0 ≤ IntKind.u64.wrap (wrap64 (7 * (i : Int))) := by rw [wrapU7 i (by omega)]; omega
      obtain ⟨hp1, hp2, hp3⟩ := p7 i (by omega)
      have hd : l.drop (a.toNat + i) = rd l (a + i) :: l.drop (a.toNat + (i + 1)) := by
        rw [drop_rd l _ (by omega), show ((a.toNat + i : Nat) : Int) = a + i from by omega]; rfl
      have hb' : 0 ≤ rd l (a + i) % 128 ∧ rd l (a + i) % 128 ≤ 127 := by omega
      have hq0 : 0 ≤ rd l (a + i) % 128 * 2 ^ (7 * i) := Int.mul_nonneg hb'.1 (by omega)
      have hq1 : rd l (a + i) % 128 * 2 ^ (7 * i) ≤ 127 * 2 ^ (7 * i) := Int.mul_le_mul_of_nonneg_right hb'.2 (by omega)
      have e5 : wrap64 (a + (i : Int) + 1) = a + ((i + 1 : Nat) : Int) := by rw [w64 _ (by omega) (by omega)]; omega
      rw [hd]
      generalize hc : rd l (a + i) = c at *
      generalize hX : x + c % 128 * 2 ^ (7 * i) = X at *
      have hX0 : 0 ≤ X := by omega
      have hX1 : X < 128 * 2 ^ (7 * i) := by omega
      by_cases h1 : c > 127
      · have := ih (i + 1) X (by omega) hX0 (by rw [hp3]; exact hX1)
        refine Ev.step (fun k => ?_) (ev_cast ?_ this)
        · simp only [impl_GetNum.j1]
          rw [hc, e2, e3, if_pos trivial, if_pos (by omega), if_pos hlt, if_pos e4, if_pos (by omega), e5, w64 ((i : Int) + 1) (by omega) (by omega)]
          rfl
        · simp [numM, h1, hX]
      · have em : Int.tmod X 2 = X % 2 := Int.tmod_eq_emod_of_nonneg hX0
        have ed : wrap64 (Int.tdiv X 2) = X / 2 := by rw [Int.tdiv_eq_ediv_of_nonneg hX0, w64 _ (by omega) (by omega)]
        have en : X % 2 = 1 → wrap64 (Int.tdiv (wrap64 (-(wrap64 (X + 1)))) 2) = -(X / 2) - 1 := by
          intro ho
          rw [w64 (X + 1) (by omega) (by omega), w64 (-(X + 1)) (by omega) (by omega), Int.neg_tdiv, Int.tdiv_eq_ediv_of_nonneg (by omega), w64 _ (by omega) (by omega)]
          omega
        by_cases h2 : c = 0 ∧ 0 < i
        · refine Ev.step (f := fun _ => some (0, 0, false)) (fun k => ?_) (ev_cast ?_ (Ev.now _))
          · simp only [impl_GetNum.j1]
            rw [hc, e2, e3, if_pos trivial, if_pos (by omega), if_pos hlt, if_pos e4, if_neg (by omega)]
            have h2' : (i : Int) > 0 := by omega
            simp only [if_pos h2', if_pos h2.1, ite_self]
          · simp [numM, h1, h2, numFin]
        · refine Ev.step (f := fun _ => some (numFin a (some (X, i + 1)))) (fun k => ?_) (ev_cast ?_ (Ev.now _))
          · simp only [impl_GetNum.j1]
            rw [hc, e2, e3, if_pos trivial, if_pos (by omega), if_pos hlt, if_pos e4, if_neg (by omega), em, e5, ed]
            simp only [impl_inRange_eq, Option.bind_some, numFin]
            by_cases h3 : X % 2 = 1
            · have hz : -(X / 2) - 1 = zag X := by unfold zag; rw [if_pos h3]
              rw [if_pos h3, en h3, hz]
              by_cases h4 : c = 0
              · rw [if_pos h4, if_neg (by omega)]
                simp only [Bool.and_eq_true, decide_eq_true_eq]
                split <;> rfl
              · rw [if_neg h4]
                simp only [Bool.and_eq_true, decide_eq_true_eq]
                split <;> rfl
            · have hz : X / 2 = zag X := by unfold zag; rw [if_neg h3]
              rw [if_neg h3, hz]
              by_cases h4 : c = 0
              · rw [if_pos h4, if_neg (by omega)]
                simp only [Bool.and_eq_true, decide_eq_true_eq]
                split <;> rfl
              · rw [if_neg h4]
                simp only [Bool.and_eq_true, decide_eq_true_eq]
                split <;> rfl
          · simp only [numM]
            rw [if_neg h1, if_neg h2, hX]
    · refine Ev.step (f := fun k => impl_GetNum.j1 k l (a + i) x i false) (fun k => ?_) (Ev.step (f := fun _ => some (0, 0, false)) (fun k => ?_) (ev_cast ?_ (Ev.now _)))
      · simp only [impl_GetNum.l0]; rw [if_pos (by omega)]; simp [hlt]
      · simp [impl_GetNum.j1]
      · rw [List.drop_eq_nil_of_le (by omega)]; rfl
theorem impl_GetNum_ev (l : List Int) (hb : BytesB l) (hl : (l.length : Int) ≤ 1048576) (a : Int) : Ev (fun k => impl_GetNum.f k l a) (getNumM l a) := by
  unfold impl_GetNum.f getNumM
  rw [impl_inRange_eq, w64 _ (by omega) (by omega)]
  simp only [Option.bind_some]
  by_cases h : 0 ≤ a ∧ a < l.length
  · rw [if_pos h]
    refine ev_pos (by simp; omega) ?_
    have := impl_GetNum_l l hb hl a h.1 h.2 6 0 0 rfl (by decide) (by decide)
    simpa using this
  · rw [if_neg h]
    exact ev_neg (by simp; omega) (Ev.now _)
def putTextM (s : ByteArray) : List Int := putNumM s.size ++ bytesOf s
theorem putTextM_len (s : ByteArray) : (putTextM s).length ≤ 6 + s.size := by
  unfold putTextM
  have := putNumM_len s.size
  rw [List.length_append, bytesOf_length]; omega
theorem impl_putText_ev (l : List Int) (s : ByteArray) (hl : (l.length : Int) ≤ 2097152) (hs : (s.size : Int) ≤ 1048576) : Ev (fun k => impl_putText.f k l s) (l ++ putTextM s) := by
  unfold impl_putText.f
  have hp := putNumM_len s.size
  refine Ev.bind (impl_putNum_ev l (by omega) _) (ev_pos (by rw [List.length_append]; omega) (ev_cast ?_ (Ev.now _)))
  unfold putTextM
  rw [List.append_assoc]
theorem impl_PutText_ev (l : List Int) (s : ByteArray) (hl : (l.length : Int) ≤ 1048576) (hs : (s.size : Int) ≤ 1048576) : Ev (fun k => impl_PutText.f k l s) (l ++ putTextM s) := by
  unfold impl_PutText.f
  rw [slices_Clone_byte_eq l (by omega)]
  exact Ev.bind (Ev.now _) (Ev.bind (impl_putText_ev l s (by omega) hs) (Ev.now _))
theorem numM_len : ∀ (n i : Nat) (x : Int) (t : List Int) (m : Int) (c : Nat), numM n i x t = some (m, c) → i < c ∧ c ≤ i + t.length := by
  intro n
  induction n with
  | zero => intro i x t m c h; simp [numM] at h
  | succ n ih =>
    intro i x t m c h
    cases t with
    | nil => simp [numM] at h
    | cons b r =>
      simp only [numM] at h
      split at h
      · have := ih _ _ _ _ _ h
        simp only [List.length_cons]; omega
      · split at h
        · cases h
        · simp only [Option.some.injEq, Prod.mk.injEq] at h
          simp only [List.length_cons]; omega
theorem getNumM_ok (l : List Int) (a : Int) (h : (getNumM l a).2.2 = true) : 0 ≤ a ∧ a < (getNumM l a).2.1 ∧ (getNumM l a).2.1 ≤ l.length ∧ -1000000000000 ≤ (getNumM l a).1 ∧ (getNumM l a).1 ≤ 1000000000000 := by
  unfold getNumM at h ⊢
  split at h
  · rename_i ha
    rw [if_pos ha]
    cases hn : numM 6 0 0 (l.drop a.toNat) with
    | none => rw [hn] at h; cases h
    | some p =>
      obtain ⟨m, c⟩ := p
      rw [hn] at h
      have hc := numM_len _ _ _ _ _ _ hn
      rw [List.length_drop] at hc
      simp only [numFin] at h ⊢
      split at h
      · rename_i hr
        rw [if_pos hr]
        refine ⟨ha.1, ?_, ?_, hr.1, hr.2⟩ <;> simp only [] <;> omega
      · cases h
  · cases h
theorem getNumM_no (l : List Int) (a : Int) (h : (getNumM l a).2.2 = false) : getNumM l a = (0, 0, false) := by
  unfold getNumM at h ⊢
  split at h
  · rename_i ha
    rw [if_pos ha]
    cases hn : numM 6 0 0 (l.drop a.toNat) with
    | none => rfl
    | some p =>
      obtain ⟨m, c⟩ := p
      rw [hn] at h
      simp only [numFin] at h ⊢
      split at h
      · cases h
      · rename_i hr
        rw [if_neg hr]
  · rename_i ha
    rw [if_neg ha]
def getTextM (l : List Int) (a : Int) : ByteArray × Int × Bool :=
  let r := getNumM l a
  if r.2.2 = true ∧ 0 ≤ r.1 ∧ r.1 ≤ l.length - r.2.1 then (strOfNums ((l.take (r.2.1 + r.1).toNat).drop r.2.1.toNat), r.2.1 + r.1, true) else ((⟨#[]⟩ : ByteArray), 0, false)
theorem impl_GetText_ev (l : List Int) (hb : BytesB l) (hl : (l.length : Int) ≤ 1048576) (a : Int) : Ev (fun k => impl_GetText.f k l a) (getTextM l a) := by
  unfold impl_GetText.f
  refine Ev.bind (impl_GetNum_ev l hb hl a) ?_
  unfold getTextM
  cases hok : (getNumM l a).2.2 with
  | false => exact ev_neg (by decide) (ev_cast (by rw [if_neg (by rw [hok]; simp)]) (Ev.now _))
  | true =>
    obtain ⟨h0, h1, h2, h3, h4⟩ := getNumM_ok l a hok
    generalize getNumM l a = r at *
    obtain ⟨n, p, ok⟩ := r
    simp only at h0 h1 h2 h3 h4 hok ⊢
    subst hok
    refine ev_pos trivial ?_
    rw [w64 _ (by omega) (by omega), w64 (p + n) (by omega) (by omega)]
    by_cases h5 : n < 0
    · exact ev_pos h5 (ev_cast (by rw [if_neg (by omega)]) (Ev.now _))
    · refine ev_neg h5 ?_
      by_cases h6 : n > (l.length : Int) - p
      · exact ev_pos h6 (ev_cast (by rw [if_neg (by omega)]) (Ev.now _))
      · refine ev_neg h6 (ev_pos (by omega) (ev_pos (by omega) (ev_pos (by omega) (ev_cast ?_ (Ev.now _)))))
        rw [if_pos ⟨rfl, by omega, by omega⟩]
theorem zag_zig (c : Int) : zag (zigM c) = c := by
  unfold zag zigM
  by_cases h : c < 0
  · rw [if_pos h, if_pos (by omega)]; omega
  · rw [if_neg h, if_neg (by omega)]; omega
theorem numM_grp7 (n : Nat) : ∀ (i : Nat) (acc x : Int) (rest : List Int), 0 ≤ x → x < 2 ^ (7 * (n + 1)) → (i = 0 ∨ 0 < x) →
    numM (n + 1) i acc (grp7 n x ++ rest) = some (acc + x * 2 ^ (7 * i), i + (grp7 n x).length) := by
  induction n with
  | zero =>
    intro i acc x rest h0 h1 hi
    have h2 : (2 : Int) ^ (7 * (0 + 1)) = 128 := by decide
    simp only [grp7, List.cons_append, List.nil_append, numM]
    rw [if_neg (by omega), if_neg (by omega), show x % 128 = x from by omega]
    simp
  | succ n ih =>
    intro i acc x rest h0 h1 hi
    have hp : (2 : Int) ^ (7 * (n + 1 + 1)) = 2 ^ (7 * (n + 1)) * 128 := by
      rw [show 7 * (n + 1 + 1) = 7 * (n + 1) + 7 from by omega, Int.pow_add]
      rfl
    unfold grp7
    by_cases h : x > 127
    · rw [if_pos h]
      simp only [List.cons_append]
      rw [numM, if_pos (by omega), ih (i + 1) _ (x / 128) rest (by omega) (by rw [hp] at h1; omega) (by omega)]
      have hq : (2 : Int) ^ (7 * (i + 1)) = 128 * 2 ^ (7 * i) := by
        rw [show 7 * (i + 1) = 7 * i + 7 from by omega, Int.pow_add, Int.mul_comm]
        rfl
      rw [hq, List.length_cons, show (x % 128 + 128) % 128 = x % 128 from by omega]
      have hx : x = x % 128 + 128 * (x / 128) := by omega
      have hm : x * 2 ^ (7 * i) = x % 128 * 2 ^ (7 * i) + x / 128 * (128 * 2 ^ (7 * i)) := by
        conv => lhs; rw [hx]
        rw [Int.add_mul, Int.mul_comm 128 (x / 128), Int.mul_assoc]
      congr 1
      rw [Prod.mk.injEq]
      exact ⟨by omega, by omega⟩
    · rw [if_neg h]
      simp only [List.cons_append, List.nil_append, numM]
      rw [if_neg (by omega), if_neg (by omega), show x % 128 = x from by omega]
      simp
theorem clamp_range (n : Int) : -1000000000000 ≤ clampM n ∧ clampM n ≤ 1000000000000 := by
  unfold clampM
  split
  · omega
  · split <;> omega
theorem drop_append_len (b t : List Int) : (b ++ t).drop ((b.length : Int)).toNat = t := by
  rw [Int.toNat_natCast, List.drop_left]
theorem putNumM_pos (n : Int) : 0 < (putNumM n).length := by
  unfold putNumM grp7
  split <;> simp
theorem get_put (b : List Int) (n : Int) (rest : List Int) : getNumM (b ++ putNumM n ++ rest) b.length = (clampM n, ((b ++ putNumM n).length : Int), true) := by
  have hz := zig_range n
  have hc := clamp_range n
  have h5 : (2 : Int) ^ (7 * (5 + 1)) = 4398046511104 := by decide
  have hpos := putNumM_pos n
  have hlen : ((b ++ putNumM n ++ rest).length : Int) = b.length + (putNumM n).length + rest.length := by simp only [List.length_append]; omega
  unfold getNumM
  rw [if_pos ⟨by omega, by omega⟩, List.append_assoc, drop_append_len]
  have := numM_grp7 5 0 0 (zigM (clampM n)) rest hz.1 (by omega) (.inl rfl)
  rw [show putNumM n = grp7 5 (zigM (clampM n)) from rfl, this]
  simp only [numFin]
  have hx : (0 : Int) + zigM (clampM n) * 2 ^ (7 * 0) = zigM (clampM n) := by simp
  rw [hx, zag_zig, if_pos hc]
  simp only [List.length_append, Nat.zero_add]
  congr 2
theorem numM_cut (n : Nat) : ∀ (i : Nat) (acc x : Int) (r : List Int), 0 ≤ x → x < 2 ^ (7 * (n + 1)) → (∃ y, grp7 n x = r ++ [y]) → ∀ m, numM m i acc r = none := by
  induction n with
  | zero =>
    intro i acc x r h0 h1 hr m
    obtain ⟨y, hy⟩ := hr
    have : r = [] := by
      have hl := congrArg List.length hy
      rw [List.length_append] at hl
      have h1 : (grp7 0 x).length = 1 := rfl
      have h2 : [y].length = 1 := rfl
      exact List.eq_nil_of_length_eq_zero (by omega)
    subst this
    cases m <;> rfl
  | succ n ih =>
    intro i acc x r h0 h1 hr m
    obtain ⟨y, hy⟩ := hr
    have hp : (2 : Int) ^ (7 * (n + 1 + 1)) = 2 ^ (7 * (n + 1)) * 128 := by
      rw [show 7 * (n + 1 + 1) = 7 * (n + 1) + 7 from by omega, Int.pow_add]
      rfl
    cases m with
    | zero => rfl
    | succ m =>
      cases r with
      | nil => rfl
      | cons c r2 =>
        unfold grp7 at hy
        by_cases h : x > 127
        · rw [if_pos h] at hy
          simp only [List.cons_append, List.cons.injEq] at hy
          obtain ⟨rfl, hy2⟩ := hy
          rw [numM, if_pos (by omega)]
          exact ih (i + 1) _ (x / 128) r2 (by omega) (by rw [hp] at h1; omega) ⟨y, hy2⟩ m
        · rw [if_neg h] at hy
          have hl := congrArg List.length hy
          simp at hl
theorem get_cut (b : List Int) (n : Int) : getNumM ((b ++ putNumM n).take ((b ++ putNumM n).length - 1)) b.length = (0, 0, false) := by
  have hz := zig_range n
  have h5 : (2 : Int) ^ (7 * (5 + 1)) = 4398046511104 := by decide
  have hpos := putNumM_pos n
  have ht : (b ++ putNumM n).take ((b ++ putNumM n).length - 1) = b ++ (putNumM n).take ((putNumM n).length - 1) := by
    rw [List.length_append, List.take_append, List.take_of_length_le (by omega)]
    congr 2
    omega
  rw [ht]
  unfold getNumM
  by_cases hc : 0 ≤ (b.length : Int) ∧ (b.length : Int) < ((b ++ (putNumM n).take ((putNumM n).length - 1)).length : Int)
  · rw [if_pos hc, drop_append_len]
    have hr : ∃ y, grp7 5 (zigM (clampM n)) = (putNumM n).take ((putNumM n).length - 1) ++ [y] := by
      have hne : putNumM n ≠ [] := by intro h; rw [h] at hpos; simp at hpos
      refine ⟨(putNumM n).getLast hne, ?_⟩
      have := List.dropLast_concat_getLast hne
      rw [List.dropLast_eq_take] at this
      exact this.symm
    rw [numM_cut 5 0 0 (zigM (clampM n)) _ hz.1 (by omega) hr 6]
    rfl
  · rw [if_neg hc]
theorem str_bytes (s : ByteArray) : strOfNums (bytesOf s) = s := by
  unfold strOfNums bytesOf
  congr 1
  apply Array.ext'
  simp [Function.comp_def]
theorem get_puttext (b : List Int) (s : ByteArray) (hs : (s.size : Int) ≤ 1000000000000) : getTextM (b ++ putTextM s) b.length = (s, ((b ++ putTextM s).length : Int), true) := by
  have hc : clampM (s.size : Int) = s.size := by unfold clampM; rw [if_neg (by omega), if_neg (by omega)]
  have hg := get_put b (s.size : Int) (bytesOf s)
  rw [hc] at hg
  unfold getTextM putTextM
  rw [← List.append_assoc, hg]
  have hl : (((b ++ putNumM (s.size : Int) ++ bytesOf s).length : Nat) : Int) = ((b ++ putNumM (s.size : Int)).length : Int) + s.size := by
    rw [List.length_append, bytesOf_length]; omega
  simp only []
  rw [if_pos ⟨trivial, by omega, by omega⟩, List.take_of_length_le (by omega)]
  rw [Int.toNat_natCast, List.drop_left, str_bytes, hl]
theorem FnNums : laws_FnNums.Pure := by
  intro l _ _ hb0
  have hbl : BytesB l := fun x hx => wf_u8 (hb0 x hx)
  refine Ev.rounds (g := fun k => laws_FnNums.f k l) ?_
  unfold laws_FnNums.f
  rw [laws_big_eq]
  simp only [Option.bind_some]
  by_cases hbig : (l.length : Int) > 1048576
  · exact ev_pos (by simpa using hbig) (Ev.now _)
  refine ev_neg (by simpa using hbig) ?_
  have hl : (l.length : Int) ≤ 1048576 := by omega
  obtain ⟨b, n, e1, hb, hbb⟩ := spec_DrawPutNum_ev l hl
  obtain ⟨c, s, e2, hcl, hcb, hs⟩ := spec_DrawPutText_ev l hl
  have hp := putNumM_len n
  have hp2 := putTextM_len s
  have hpos := putNumM_pos n
  have hGl : ((b ++ putNumM n).length : Int) ≤ 15 := by rw [List.length_append]; omega
  have hGb : BytesB (b ++ putNumM n) := by
    intro x hx
    rcases List.mem_append.1 hx with hx | hx
    · exact hbb x hx
    · exact putNumM_bytes n x hx
  have hG := get_put b n []
  rw [List.append_nil] at hG
  have hcut := get_cut b n
  have hT := get_puttext c s (by omega)
  have hTl : ((c ++ putTextM s).length : Int) ≤ 30 := by rw [List.length_append]; omega
  have hTb : BytesB (c ++ putTextM s) := by
    intro x hx
    rcases List.mem_append.1 hx with hx | hx
    · exact hcb x hx
    · unfold putTextM at hx
      rcases List.mem_append.1 hx with hx | hx
      · exact putNumM_bytes _ x hx
      · unfold bytesOf at hx
        obtain ⟨u, _, rfl⟩ := List.mem_map.1 hx
        have := u.toNat_lt
        omega
  have eG := impl_GetNum_ev (b ++ putNumM n) hGb (by omega) b.length
  rw [hG] at eG
  have eT := impl_GetText_ev (c ++ putTextM s) hTb (by omega) c.length
  rw [hT] at eT
  refine Ev.bind e1 (Ev.bind (impl_PutNum_ev b (by omega) n) (Ev.bind eG ?_))
  simp only []
  generalize hGd : b ++ putNumM n = G at *
  have fin : Ev (fun k => laws_FnNums.j1 k l b (clampM n) G (clampM n) (G.length : Int) true) true := by
    have hGp : 0 < G.length := by rw [← hGd, List.length_append]; omega
    have ec := impl_GetNum_ev (G.take (G.length - 1)) (fun x hx => hGb x (List.mem_of_mem_take hx)) (by rw [List.length_take]; omega) b.length
    rw [hcut] at ec
    refine Ev.step (f := fun k => (impl_GetNum.f k (G.take (G.length - 1)) (b.length : Int)).bind fun bt231 => ((spec_DrawPutText.f k l).bind fun bt234 => ((impl_PutText.f k bt234.1 bt234.2).bind fun t238 => ((impl_GetText.f k t238 (bt234.1.length : Int)).bind fun bt241 => (if true = true then (if clampM n = clampM n then (if (G.length : Int) = (G.length : Int) then (if bt231.2.2 = true then (some false) else (if bt241.2.2 = true then (if bt241.1.toList = bt234.2.toList then (some (bt241.2.1 == (t238.length : Int))) else (some false)) else (some false))) else (some false)) else (some false)) else (some false)))))) (fun k => ?_) ?_
    · simp only [laws_FnNums.j1]
      rw [w64 _ (by omega) (by omega), if_pos (by omega), if_pos (by omega), show ((G.length : Int) - 1).toNat = G.length - 1 from by omega]
    · refine Ev.bind ec (Ev.bind e2 (Ev.bind (impl_PutText_ev c s (by omega) (by omega)) (Ev.bind eT (ev_pos rfl (ev_pos rfl (ev_pos rfl (ev_neg (by decide) (ev_pos rfl (ev_pos rfl (ev_cast ?_ (Ev.now _)))))))))))
      simp
  by_cases h1 : n > 1000000000000
  · refine ev_pos h1 (Ev.step (fun k => ?_) fin)
    have hcl2 : clampM n = 1000000000000 := by unfold clampM; rw [if_neg (by omega), if_pos h1]
    simp only [laws_FnNums.j0]; rw [if_neg (by omega), hcl2]
  · refine ev_neg h1 ?_
    by_cases h2 : n < -1000000000000
    · refine Ev.step (fun k => ?_) fin
      have hcl2 : clampM n = -1000000000000 := by unfold clampM; rw [if_pos h2]
      simp only [laws_FnNums.j0]; rw [if_pos h2, hcl2]
    · refine Ev.step (fun k => ?_) fin
      have hcl2 : clampM n = n := by unfold clampM; rw [if_neg h2, if_neg h1]
      simp only [laws_FnNums.j0]; rw [if_neg h2, hcl2]

end Go.Proofs.Ythfiopjabfaejaa.Pure
