/- What the law FnTermTexts of this seat says holds for every input that its row speaks of; no further condition. -/
import Derived.Test.YtpbhbpffpkedcaaDoorQFnTermTextsx9
import Derived.Lib.Strings
set_option linter.unusedVariables false
set_option linter.unusedSimpArgs false
namespace Go.Proofs.YtpbhbpffpkedcaaDoor.Pure
open Go.RowKit Go.Proofs.YtpbhbpffpkedcaaDoor.QFnTermTexts Go.Proofs.YtpbhbpffpkedcaaDoorW.PrintWords Go.Proofs.YtpbhbpffpkedcaaDoorW.PrintLast Go.Proofs.YtpbhbpffpkedcaaDoorW.PrintMore

theorem ev_pos {α : Type} {c : Prop} [Decidable c] {A B : Nat → Option α} {r : α} (h : c) (e : Ev A r) : Ev (fun k => if c then A k else B k) r := by
  obtain ⟨K, hK⟩ := e
  exact ⟨K, fun k hk => by simp only [if_pos h]; exact hK k hk⟩
theorem ev_neg {α : Type} {c : Prop} [Decidable c] {A B : Nat → Option α} {r : α} (h : ¬ c) (e : Ev B r) : Ev (fun k => if c then A k else B k) r := by
  obtain ⟨K, hK⟩ := e
  exact ⟨K, fun k hk => by simp only [if_neg h]; exact hK k hk⟩
theorem ev_of {α : Type} {o : Option α} {r : α} (h : o = some r) : Ev (fun _ => o) r := ⟨0, fun _ _ => h⟩
theorem ev_cast {α : Type} {g : Nat → Option α} {r r' : α} (h : r = r') (e : Ev g r) : Ev g r' := h ▸ e
theorem ev_uniq {α : Type} {g : Nat → Option α} {r r' : α} (h : Ev g r) (h' : Ev g r') : r = r' := by
  obtain ⟨K, hK⟩ := h
  obtain ⟨K', hK'⟩ := h'
  have a := hK (max K K') (Nat.le_max_left _ _)
  have b := hK' (max K K') (Nat.le_max_right _ _)
  rw [a] at b
  exact Option.some.inj b
theorem w64 (n : Int) (h0 : -9223372036854775808 ≤ n) (h1 : n ≤ 9223372036854775807) : wrap64 n = n := by unfold wrap64; omega
theorem dec_and (p q : Prop) [Decidable p] [Decidable q] : decide (p ∧ q) = (decide p && decide q) := by
  by_cases hp : p <;> by_cases hq : q <;> simp [hp, hq]
theorem laws_big_eq (l : List Int) : laws_big.f l = some (decide ((l.length : Int) > 1048576)) := rfl
theorem indI {P : S29 → Prop} (h : ∀ a b s l, (∀ y ∈ l, P y) → P ⟨a, b, s, l⟩) : ∀ x, P x := by
  intro x
  refine S29.rec (motive_1 := P) (motive_2 := fun l => ∀ y ∈ l, P y) ?_ ?_ ?_ x
  · intro a b s l hl
    exact h a b s l hl
  · intro y hy; cases hy
  · intro x r hx hr y hy
    rcases List.mem_cons.1 hy with rfl | hy
    · exact hx
    · exact hr y hy
mutual
def budI : S29 → Nat
  | ⟨_, _, s, l⟩ => s.size + budIL l
def budIL : List S29 → Nat
  | [] => 0
  | x :: r => 1 + budI x + budIL r
end
theorem budI_mk (a b : Int) (s : ByteArray) (l : List S29) : budI ⟨a, b, s, l⟩ = s.size + budIL l := by rw [budI]
theorem budIL_len : ∀ l : List S29, l.length ≤ budIL l
  | [] => by simp [budIL]
  | x :: r => by
    have := budIL_len r
    rw [budIL, List.length_cons]; omega
theorem rdI_mem (l : List S29) (i : Nat) (h : i < l.length) : rd_T29 l i ∈ l := by
  unfold rd_T29
  simp [List.getD_eq_getElem?_getD, List.getElem?_eq_getElem h]
theorem dropI (l : List S29) (i : Nat) (h : i < l.length) : l.drop i = rd_T29 l i :: l.drop (i + 1) := by
  rw [List.drop_eq_getElem_cons h]
  unfold rd_T29
  simp [List.getElem?_eq_getElem h]
theorem budI_mem : ∀ (l : List S29) (x : S29), x ∈ l → budI x + 1 ≤ budIL l
  | [], x, h => by cases h
  | y :: r, x, h => by
    rw [budIL]
    rcases List.mem_cons.1 h with rfl | h
    · omega
    · have := budI_mem r x h; omega
theorem etaI (x : S29) : (⟨x.f0, x.f1, x.f2, x.f3⟩ : S29) = x := by cases x; rfl
theorem wf_u8 {x : Int} (h : (Lit.int .u8 x).wf = true) : 0 ≤ x ∧ x < 256 := by
  simp [Lit.wf, IntKind.min, IntKind.max, IntKind.bits, IntKind.signed] at h
  omega
theorem wf_i64 {x : Int} (h : (Lit.int .i64 x).wf = true) : -9223372036854775808 ≤ x ∧ x ≤ 9223372036854775807 := by
  simp [Lit.wf, IntKind.min, IntKind.max, IntKind.bits, IntKind.signed] at h
  omega
def BytesB (l : List Int) : Prop := ∀ x ∈ l, 0 ≤ x ∧ x < 256
theorem BytesB.at_ {l : List Int} (h : BytesB l) (i : Int) : 0 ≤ rd l i ∧ rd l i < 256 := by
  unfold rd
  rw [List.getD_eq_getElem?_getD]
  by_cases hi : i.toNat < l.length
  · rw [List.getElem?_eq_getElem hi]; exact h _ (List.getElem_mem hi)
  · rw [List.getElem?_eq_none (by omega)]; decide
theorem drop_rd (l : List Int) (p : Nat) (h : p < l.length) : l.drop p = rd l p :: l.drop (p + 1) := by
  rw [List.drop_eq_getElem_cons h]
  unfold rd
  simp [List.getElem?_eq_getElem h]
theorem hk63 (n : Int) (h0 : 0 ≤ n) (h1 : n < 2 ^ 63) : IntKind.i64.wrap n = n := by
  rw [IntKind.wrap_i64]; omega
theorem or_comm64 (a b : Int) : Go.bits .or .i64 a b = Go.bits .or .i64 b a := by
  unfold Go.bits
  simp only [BitVec.or_comm]
theorem and127 (c : Int) (h0 : 0 ≤ c) (h1 : c < 256) : Go.bits .and .i64 c 127 = c % 128 := by
  have := bits_mask .i64 63 (by decide) hk63 7 (by decide) c h0 (by omega)
  simpa using this
theorem wrapU7 (i : Nat) (hi : i < 6) : IntKind.u64.wrap (wrap64 (7 * (i : Int))) = 7 * (i : Int) := by
  rw [w64 _ (by omega) (by omega)]
  simp [IntKind.wrap, IntKind.bits, IntKind.signed]
  omega
theorem p7 (i : Nat) (hi : i < 6) : (1 : Int) ≤ 2 ^ (7 * i) ∧ (2 : Int) ^ (7 * i) ≤ 34359738368 ∧ (2 : Int) ^ (7 * (i + 1)) = 128 * 2 ^ (7 * i) := by
  have : i = 0 ∨ i = 1 ∨ i = 2 ∨ i = 3 ∨ i = 4 ∨ i = 5 := by omega
  rcases this with rfl | rfl | rfl | rfl | rfl | rfl <;> decide
theorem grp (x c : Int) (i : Nat) (hi : i < 6) (hx0 : 0 ≤ x) (hx : x < 2 ^ (7 * i)) (hc0 : 0 ≤ c) (hc : c < 256) :
    Go.bits .or .i64 x (shl .i64 (Go.bits .and .i64 c 127) (IntKind.u64.wrap (wrap64 (7 * (i : Int))))) = x + (c % 128) * 2 ^ (7 * i) := by
  obtain ⟨hp1, hp2, _⟩ := p7 i hi
  rw [and127 c hc0 hc, wrapU7 i hi]
  unfold shl
  have hm : min (7 * (i : Int)).toNat (IntKind.i64.bits) = 7 * i := by show min _ 64 = _; omega
  have hb : 0 ≤ c % 128 ∧ c % 128 ≤ 127 := by omega
  have hq0 : 0 ≤ c % 128 * 2 ^ (7 * i) := Int.mul_nonneg hb.1 (by omega)
  have hq1 : c % 128 * 2 ^ (7 * i) ≤ 127 * 34359738368 := Int.mul_le_mul hb.2 hp2 (by omega) (by decide)
  rw [hm, hk63 _ hq0 (by omega), or_comm64]
  rw [bits_join .i64 63 (by decide) hk63 (7 * i) _ x hq0 (Int.mul_emod_left _ _) (by omega) hx0 hx (by omega)]
  omega
/-- What stands at a place: groups of seven bits; the number, and how many bytes. -/
def numM : Nat → Nat → Int → List Int → Option (Int × Nat)
  | 0, _, _, _ => none
  | _ + 1, _, _, [] => none
  | n + 1, i, x, c :: r => if c > 127 then numM n (i + 1) (x + (c % 128) * 2 ^ (7 * i)) r else if c = 0 ∧ 0 < i then none else some (x + (c % 128) * 2 ^ (7 * i), i + 1)
def zag (m : Int) : Int := if m % 2 = 1 then -(m / 2) - 1 else m / 2
def numFin (a : Int) : Option (Int × Nat) → Int × Int × Bool
  | none => (0, 0, false)
  | some (m, c) => if -1000000000000 ≤ zag m ∧ zag m ≤ 1000000000000 then (zag m, a + c, true) else (0, 0, false)
def getNumM (l : List Int) (a : Int) : Int × Int × Bool := if 0 ≤ a ∧ a < l.length then numFin a (numM 6 0 0 (l.drop a.toNat)) else (0, 0, false)
def Cur (b : List Int) (i : Int) : Prop := 0 ≤ i ∧ i ≤ b.length ∧ (b.length : Int) ≤ 1048576
theorem and255 (x : Int) : 0 ≤ Go.bits .and .i64 x 255 ∧ Go.bits .and .i64 x 255 ≤ 255 := by
  have h : Go.bits .and .i64 x 255 = IntKind.i64.wrap (((BitVec.ofInt 64 x) &&& (BitVec.ofInt 64 255)).toNat : Int) := rfl
  have h2 : ((BitVec.ofInt 64 x) &&& (BitVec.ofInt 64 255)).toNat ≤ 255 := by
    rw [BitVec.toNat_and]
    exact Nat.and_le_right
  rw [h, hk63 _ (by omega) (by omega)]
  omega
theorem and30 (x : Int) : 0 ≤ Go.bits .and .i64 x 1073741823 ∧ Go.bits .and .i64 x 1073741823 ≤ 1073741823 := by
  have h : Go.bits .and .i64 x 1073741823 = IntKind.i64.wrap (((BitVec.ofInt 64 x) &&& (BitVec.ofInt 64 1073741823)).toNat : Int) := rfl
  have h2 : ((BitVec.ofInt 64 x) &&& (BitVec.ofInt 64 1073741823)).toNat ≤ 1073741823 := by
    rw [BitVec.toNat_and]
    exact Nat.and_le_right
  rw [h, hk63 _ (by omega) (by omega)]
  omega
theorem spec_l1Byte_eq (b : List Int) (i h : Int) (hc : Cur b i) : ∃ v i2 h2, spec_l1Byte.f b i h = some (v, i2, h2) ∧ 0 ≤ v ∧ v ≤ 255 ∧ Cur b i2 := by
  unfold spec_l1Byte.f
  obtain ⟨h0, h1, h2⟩ := hc
  by_cases hi : i < (b.length : Int)
  · rw [if_pos hi, if_pos h0, w64 (i + 1) (by omega) (by omega)]
    exact ⟨_, _, _, rfl, (and255 _).1, (and255 _).2, by omega, by omega, h2⟩
  · rw [if_neg hi]
    exact ⟨_, _, _, rfl, (and255 _).1, (and255 _).2, h0, h1, h2⟩
theorem spec_l1Below_eq (b : List Int) (i h n : Int) (hc : Cur b i) : ∃ v i2 h2, spec_l1Below.f b i h n = some (v, i2, h2) ∧ 0 ≤ v ∧ (0 < n → v < n) ∧ (n ≤ 0 → v = 0) ∧ Cur b i2 := by
  unfold spec_l1Below.f
  by_cases h0 : n ≤ 0
  · rw [if_pos h0]
    exact ⟨0, i, h, rfl, by omega, by omega, fun _ => rfl, hc⟩
  rw [if_neg h0]
  by_cases h1 : n ≤ 256
  · rw [if_pos h1]
    obtain ⟨v, i2, h2, e, v0, v1, c2⟩ := spec_l1Byte_eq b i h hc
    rw [e]
    simp only [Option.bind_some]
    rw [if_neg (by omega)]
    refine ⟨_, _, _, rfl, ?_, fun _ => ?_, by omega, c2⟩
    · rw [Int.tmod_eq_emod_of_nonneg v0]; exact Int.emod_nonneg _ (by omega)
    · rw [Int.tmod_eq_emod_of_nonneg v0]; exact Int.emod_lt_of_pos _ (by omega)
  · rw [if_neg h1]
    obtain ⟨x, i2, h2, e, x0, x1, c2⟩ := spec_l1Byte_eq b i h hc
    rw [e]
    simp only [Option.bind_some]
    obtain ⟨y, i3, h3, e3, y0, y1, c3⟩ := spec_l1Byte_eq b i2 h2 c2
    rw [e3]
    simp only [Option.bind_some]
    obtain ⟨z, i4, h4, e4, z0, z1, c4⟩ := spec_l1Byte_eq b i3 h3 c3
    rw [e4]
    simp only [Option.bind_some]
    rw [if_neg (by omega), w64 (x * 65536) (by omega) (by omega), w64 (y * 256) (by omega) (by omega), w64 (x * 65536 + y * 256) (by omega) (by omega), w64 (x * 65536 + y * 256 + z) (by omega) (by omega)]
    refine ⟨_, _, _, rfl, ?_, fun _ => ?_, by omega, c4⟩
    · rw [Int.tmod_eq_emod_of_nonneg (by omega)]; exact Int.emod_nonneg _ (by omega)
    · rw [Int.tmod_eq_emod_of_nonneg (by omega)]; exact Int.emod_lt_of_pos _ (by omega)
theorem spec_l1Int_eq (b : List Int) (i h : Int) (l : List Int) (hl : 0 < l.length) (hc : Cur b i) : ∃ v i2 h2, spec_l1Int.f b i h l = some (v, i2, h2) ∧ v ∈ l ∧ Cur b i2 := by
  unfold spec_l1Int.f
  obtain ⟨v, i2, h2, e, v0, v1, _, c2⟩ := spec_l1Below_eq b i h l.length hc
  rw [e]
  simp only [Option.bind_some]
  have v2 := v1 (by omega)
  rw [if_pos v0, if_pos v2]
  refine ⟨_, _, _, rfl, ?_, c2⟩
  unfold rd
  have hv : v.toNat < l.length := by omega
  simp [List.getD_eq_getElem?_getD, List.getElem?_eq_getElem hv]
theorem spec_l1Str_eq (b : List Int) (i h : Int) (l : List ByteArray) (hl : 0 < l.length) (hc : Cur b i) : ∃ v i2 h2, spec_l1Str.f b i h l = some (v, i2, h2) ∧ v ∈ l ∧ Cur b i2 := by
  unfold spec_l1Str.f
  obtain ⟨v, i2, h2, e, v0, v1, _, c2⟩ := spec_l1Below_eq b i h l.length hc
  rw [e]
  simp only [Option.bind_some]
  have v2 := v1 (by omega)
  rw [if_pos v0, if_pos v2]
  refine ⟨_, _, _, rfl, ?_, c2⟩
  unfold rdOf
  have hv : v.toNat < l.length := by omega
  simp [List.getD_eq_getElem?_getD, List.getElem?_eq_getElem hv]
theorem spec_l1Once_eq (b : List Int) (i h n : Int) (hc : Cur b i) : ∃ v i2 h2, spec_l1Once.f b i h n = some (v, i2, h2) ∧ Cur b i2 := by
  unfold spec_l1Once.f
  obtain ⟨v, i2, h2, e, _, _, _, c2⟩ := spec_l1Below_eq b i h n hc
  rw [e]
  exact ⟨_, _, _, rfl, c2⟩
theorem budIL_app : ∀ (l m : List S29), budIL (l ++ m) = budIL l + budIL m
  | [], m => by rw [List.nil_append, budIL]; omega
  | x :: r, m => by rw [List.cons_append, budIL, budIL, budIL_app r m]; omega
theorem budIL_one (x : S29) : budIL [x] = 1 + budI x := by rw [budIL, budIL]; rfl
theorem budI_eta (x : S29) : budI x = x.f2.size + budIL x.f3 := by cases x; rw [budI]
theorem take_rdI (l : List S29) (i : Nat) (h : i < l.length) : l.take i ++ [rd_T29 l i] = l.take (i + 1) := by
  rw [List.take_add_one]
  unfold rd_T29
  simp [List.getElem?_eq_getElem h]
theorem spec_l2Draw_l (b : List Int) (d : Nat) (hd : d ≤ 3) (B : Nat)
    (ih : 0 < d → ∀ i h, Cur b i → ∃ (x : S29) (i2 h2 : Int), Ev (fun k => spec_l2Draw.f k b i h ((d - 1 : Nat) : Int)) (x.f0, x.f1, x.f2, x.f3, i2, h2) ∧ budI x ≤ B ∧ Cur b i2) (t0 t1 : Int) (s : ByteArray) :
    ∀ (n : Nat) (l : List S29) (i h : Int), n ≤ 3 → budIL l + n * (B + 1) ≤ 60000 → Cur b i → ∃ l2 i2 h2, Ev (fun k => spec_l2Draw.l0 k d n b i h t0 t1 s l) (t0, t1, s, l2, i2, h2) ∧ budIL l2 ≤ budIL l + n * (B + 1) ∧ Cur b i2 := by
  intro n
  induction n with
  | zero =>
    intro l i h hn hl hc
    refine ⟨l, i, h, Ev.step (f := fun _ => some (t0, t1, s, l, i, h)) (fun k => ?_) (Ev.now _), by omega, hc⟩
    simp only [spec_l2Draw.l0]; rw [if_neg (by omega)]
  | succ n ihn =>
    intro l i h hn hl hc
    rw [Nat.succ_mul] at hl
    by_cases h0 : (d : Int) > 0
    · obtain ⟨x, i2, h2, e, hx, c2⟩ := ih (by omega) i h hc
      have hlen := budIL_len l
      have ha := budIL_app l [x]
      rw [budIL_one] at ha
      obtain ⟨l3, i3, h3, e3, hl3, c3⟩ := ihn (l ++ [x]) i2 h2 (by omega) (by omega) c2
      refine ⟨l3, i3, h3, Ev.step (f := fun k => (spec_l2Draw.f k b i h ((d - 1 : Nat) : Int)).bind fun bt => (if l.length < 2513169434916 then (spec_l2Draw.l0 k d (wrap64 (((n + 1 : Nat) : Int) - 1)) b bt.2.2.2.2.1 bt.2.2.2.2.2 t0 t1 s (l ++ [(⟨bt.1, bt.2.1, bt.2.2.1, bt.2.2.2.1⟩ : S29)])) else none)) (fun k => ?_) (Ev.bind e (ev_pos (by omega) ?_)), ?_, c3⟩
      · simp only [spec_l2Draw.l0]; rw [if_pos (by omega), if_pos h0, w64 ((d : Int) - 1) (by omega) (by omega), show (d : Int) - 1 = ((d - 1 : Nat) : Int) from by omega]
      · rw [w64 _ (by omega) (by omega), show ((n + 1 : Nat) : Int) - 1 = (n : Int) from by omega]
        simp only [etaI]
        exact e3
      · rw [Nat.succ_mul]; omega
    · refine ⟨l, i, h, Ev.step (f := fun _ => some (t0, t1, s, l, i, h)) (fun k => ?_) (Ev.now _), by omega, hc⟩
      simp only [spec_l2Draw.l0]; rw [if_pos (by omega), if_neg h0]
def drawB : Nat → Nat
  | 0 => 4
  | d + 1 => 3 * drawB d + 4
theorem drawB_lo (d : Nat) : 4 ≤ drawB d := by cases d <;> simp [drawB]
theorem drawB_hi (d : Nat) (h : d ≤ 3) : drawB d ≤ 160 := by
  have : d = 0 ∨ d = 1 ∨ d = 2 ∨ d = 3 := by omega
  rcases this with rfl | rfl | rfl | rfl <;> decide
theorem spec_l2Draw_j1 (b : List Int) (d : Nat) (hd : d ≤ 3) (B : Nat) (hB : B ≤ 1000)
    (ih : 0 < d → ∀ i h, Cur b i → ∃ (x : S29) (i2 h2 : Int), Ev (fun k => spec_l2Draw.f k b i h ((d - 1 : Nat) : Int)) (x.f0, x.f1, x.f2, x.f3, i2, h2) ∧ budI x ≤ B ∧ Cur b i2)
    (v : Int) (q : Bool) (i h : Int) (hc : Cur b i) : ∃ (x : S29) (i2 h2 : Int), Ev (fun k => spec_l2Draw.j1 k d v q b i h) (x.f0, x.f1, x.f2, x.f3, i2, h2) ∧ budI x ≤ 3 * B + 4 ∧ Cur b i2 := by
  cases q with
  | true =>
    obtain ⟨s, i2, h2, e, hs, c2⟩ := spec_l1Str_eq b i h [(⟨#[111, 107]⟩ : ByteArray), (⟨#[115, 116, 111, 112]⟩ : ByteArray), (⟨#[97]⟩ : ByteArray), (⟨#[116, 114, 117, 101]⟩ : ByteArray), (⟨#[97, 100, 100]⟩ : ByteArray)] (by decide) hc
    refine ⟨⟨2, 0, s, []⟩, i2, h2, Ev.step (f := fun _ => some (2, 0, s, [], i2, h2)) (fun k => ?_) (Ev.now _), ?_, c2⟩
    · simp only [spec_l2Draw.j1]; rw [if_pos trivial, e]; rfl
    · rw [budI, budIL]
      simp only [List.mem_cons, List.not_mem_nil, or_false] at hs
      rcases hs with rfl | rfl | rfl | rfl | rfl <;> (show (_ : Nat) + 0 ≤ _; exact Nat.le_trans (by decide) (Nat.le_add_left 4 _))
  | false =>
    by_cases h5 : v = 5
    · obtain ⟨n, i2, h2, e, _, _, _, c2⟩ := spec_l1Below_eq b i h 5 hc
      refine ⟨⟨3, n, ⟨#[]⟩, []⟩, i2, h2, Ev.step (f := fun _ => some (3, n, ⟨#[]⟩, [], i2, h2)) (fun k => ?_) (Ev.now _), ?_, c2⟩
      · simp only [spec_l2Draw.j1]; rw [if_neg (by decide), if_pos h5, e]; rfl
      · rw [budI, budIL]; exact Nat.zero_le _
    · obtain ⟨t, i2, h2, e, _, c2⟩ := spec_l1Int_eq b i h [4, 5] (by decide) hc
      obtain ⟨n, i3, h3, e3, n0, n1, _, c3⟩ := spec_l1Below_eq b i2 h2 4 c2
      have n2 := n1 (by decide)
      have hl := spec_l2Draw_l b d hd B ih t 0 ⟨#[]⟩ n.toNat [] i3 h3 (by omega) (by
        rw [budIL]
        have : n.toNat * (B + 1) ≤ 3 * (B + 1) := Nat.mul_le_mul_right _ (by omega)
        omega) c3
      obtain ⟨l2, i4, h4, e4, hl2, c4⟩ := hl
      rw [show ((n.toNat : Nat) : Int) = n from by omega] at e4
      refine ⟨⟨t, 0, ⟨#[]⟩, l2⟩, i4, h4, Ev.step (f := fun k => spec_l2Draw.l0 k d n b i3 h3 t 0 ⟨#[]⟩ []) (fun k => ?_) e4, ?_, c4⟩
      · simp only [spec_l2Draw.j1]; rw [if_neg (by decide), if_neg h5, e]
        simp only [Option.bind_some]
        rw [e3]; rfl
      · rw [budI]
        rw [budIL] at hl2
        have : n.toNat * (B + 1) ≤ 3 * (B + 1) := Nat.mul_le_mul_right _ (by omega)
        show 0 + budIL l2 ≤ _
        omega
theorem spec_l2Draw_j0 (b : List Int) (d : Nat) (hd : d ≤ 3) (B : Nat) (hB : B ≤ 1000)
    (ih : 0 < d → ∀ i h, Cur b i → ∃ (x : S29) (i2 h2 : Int), Ev (fun k => spec_l2Draw.f k b i h ((d - 1 : Nat) : Int)) (x.f0, x.f1, x.f2, x.f3, i2, h2) ∧ budI x ≤ B ∧ Cur b i2)
    (v : Int) (q : Bool) (i h : Int) (hc : Cur b i) : ∃ (x : S29) (i2 h2 : Int), Ev (fun k => spec_l2Draw.j0 k d v q b i h) (x.f0, x.f1, x.f2, x.f3, i2, h2) ∧ budI x ≤ 3 * B + 4 ∧ Cur b i2 := by
  cases q with
  | true =>
    obtain ⟨w, i2, h2, e, _, _, _, c2⟩ := spec_l1Below_eq b i h 1000 hc
    obtain ⟨n, i3, h3, e3, _, c3⟩ := spec_l1Int_eq b i2 h2 [0, 1, 2, (-1), 7, 1000000000000, (-1000000000000), w] (by simp) c2
    refine ⟨⟨1, n, ⟨#[]⟩, []⟩, i3, h3, Ev.step (f := fun _ => some (1, n, ⟨#[]⟩, [], i3, h3)) (fun k => ?_) (Ev.now _), ?_, c3⟩
    · simp only [spec_l2Draw.j0]; rw [if_pos trivial, e]
      simp only [Option.bind_some]
      rw [e3]; rfl
    · rw [budI, budIL]; exact Nat.zero_le _
  | false =>
    obtain ⟨x, i2, h2, e, hx, c2⟩ := spec_l2Draw_j1 b d hd B hB ih v (if v = 3 then v == 3 else v == 4) i h hc
    refine ⟨x, i2, h2, Ev.step (fun k => ?_) e, hx, c2⟩
    simp only [spec_l2Draw.j0]; rw [if_neg (by decide)]
    split <;> rfl
theorem spec_l2Draw_step (b : List Int) (d : Nat) (hd : d ≤ 3) (B : Nat) (hB : B ≤ 1000)
    (ih : 0 < d → ∀ i h, Cur b i → ∃ (x : S29) (i2 h2 : Int), Ev (fun k => spec_l2Draw.f k b i h ((d - 1 : Nat) : Int)) (x.f0, x.f1, x.f2, x.f3, i2, h2) ∧ budI x ≤ B ∧ Cur b i2)
    (i h : Int) (hc : Cur b i) : ∃ (x : S29) (i2 h2 : Int), Ev (fun k => spec_l2Draw.f k b i h d) (x.f0, x.f1, x.f2, x.f3, i2, h2) ∧ budI x ≤ 3 * B + 4 ∧ Cur b i2 := by
  obtain ⟨v, i2, h2, e, _, _, _, c2⟩ := spec_l1Below_eq b i h 8 hc
  obtain ⟨x, i3, h3, e3, hx, c3⟩ := spec_l2Draw_j0 b d hd B hB ih v (if v = 0 then v == 0 else if v = 1 then v == 1 else v == 2) i2 h2 c2
  refine ⟨x, i3, h3, Ev.step (fun k => ?_) e3, hx, c3⟩
  simp only [spec_l2Draw.f]; rw [e]
  simp only [Option.bind_some]
  split
  · rfl
  · split <;> rfl
theorem spec_l2Draw_all (b : List Int) (d : Nat) : d ≤ 3 → ∀ i h, Cur b i → ∃ (x : S29) (i2 h2 : Int), Ev (fun k => spec_l2Draw.f k b i h (d : Int)) (x.f0, x.f1, x.f2, x.f3, i2, h2) ∧ budI x ≤ drawB d ∧ Cur b i2 := by
  induction d with
  | zero =>
    intro hd i h hc
    exact spec_l2Draw_step b 0 hd 0 (by omega) (fun h0 => absurd h0 (by omega)) i h hc
  | succ d ih =>
    intro hd i h hc
    have := drawB_hi d (by omega)
    exact spec_l2Draw_step b (d + 1) hd (drawB d) (by omega) (fun _ i h hc => ih (by omega) i h hc) i h hc
theorem spec_l2Copy_l (a b : Int) (s : ByteArray) (l : List S29) (hl : (budIL l : Int) ≤ 4194304)
    (h : ∀ y ∈ l, Ev (fun k => spec_l2Copy.f k y.f0 y.f1 y.f2 y.f3) (y.f0, y.f1, y.f2, y.f3)) (d : Nat) : ∀ (i : Nat), i + d = l.length → Ev (fun k => spec_l2Copy.l0 k i a b s l a b s (l.take i)) (a, b, s, l) := by
  have hlen := budIL_len l
  induction d with
  | zero =>
    intro i hi
    refine Ev.step (f := fun _ => some (a, b, s, l)) (fun k => ?_) (Ev.now _)
    simp only [spec_l2Copy.l0]; rw [if_neg (by omega), List.take_of_length_le (by omega)]
  | succ d ih =>
    intro i hi
    have hlt : i < l.length := by omega
    have e := h _ (rdI_mem l i hlt)
    have ht := take_rdI l i hlt
    generalize hy : rd_T29 l i = y at *
    refine Ev.step (f := fun k => (spec_l2Copy.f k y.f0 y.f1 y.f2 y.f3).bind fun bt => (if (l.take i).length < 2513169434916 then (spec_l2Copy.l0 k (wrap64 ((i : Int) + 1)) a b s l a b s (l.take i ++ [(⟨bt.1, bt.2.1, bt.2.2.1, bt.2.2.2⟩ : S29)])) else none)) (fun k => ?_) (Ev.bind e (ev_pos (by rw [List.length_take]; omega) ?_))
    · simp only [spec_l2Copy.l0]; rw [if_pos (by omega), if_pos (by omega), hy]
    · rw [w64 _ (by omega) (by omega)]
      refine ev_cast rfl ?_
      have := ih (i + 1) (by omega)
      rw [← ht] at this
      simp only [etaI]
      exact this
theorem spec_l2Copy_all : ∀ x, (budI x : Int) ≤ 4194304 → Ev (fun k => spec_l2Copy.f k x.f0 x.f1 x.f2 x.f3) (x.f0, x.f1, x.f2, x.f3) := by
  refine indI ?_
  intro a b s l ih hb
  rw [budI] at hb
  refine Ev.step (fun k => ?_) (spec_l2Copy_l a b s l (by omega) (fun y hy => ih y hy (by have := budI_mem l y hy; omega)) l.length 0 (by omega))
  simp only [spec_l2Copy.f]; rfl
theorem spec_l2Bend_l (b : List Int) (i h : Int) (d : Nat) : ∀ (j : Nat) (x : S29), j + d = 8 → ∃ y : S29, Ev (fun k => spec_l2Bend.l0 k j b i h x.f0 x.f1 x.f2 x.f3) (y.f0, y.f1, y.f2, y.f3, i, h) ∧ budI y ≤ budI x + d := by
  induction d with
  | zero =>
    intro j x hj
    refine ⟨x, Ev.step (f := fun _ => some (x.f0, x.f1, x.f2, x.f3, i, h)) (fun k => ?_) (Ev.now _), by omega⟩
    simp only [spec_l2Bend.l0]; rw [if_neg (by omega)]
  | succ d ih =>
    intro j x hj
    obtain ⟨y, e, hy⟩ := ih (j + 1) ⟨4, 0, ⟨#[]⟩, [x]⟩ (by omega)
    refine ⟨y, Ev.step (fun k => ?_) e, ?_⟩
    · simp only [spec_l2Bend.l0]; rw [if_pos (by omega), w64 _ (by omega) (by omega), etaI]; rfl
    · rw [budI, budIL_one] at hy
      have : (⟨#[]⟩ : ByteArray).size = 0 := rfl
      omega
theorem spec_l2Bend_ev (b : List Int) (i h : Int) (hc : Cur b i) (x : S29) (hx : budI x ≤ 4000) : ∃ (y : S29) (i2 h2 : Int), Ev (fun k => spec_l2Bend.f k b i h x.f0 x.f1 x.f2 x.f3) (y.f0, y.f1, y.f2, y.f3, i2, h2) ∧ budI y ≤ budI x + 30 ∧ Cur b i2 := by
  have hcp := spec_l2Copy_all x (by omega)
  have hb := budI_eta x
  obtain ⟨v, i2, h2, e, _, _, _, c2⟩ := spec_l1Below_eq b i h 6 hc
  unfold spec_l2Bend.f
  by_cases h0 : v = 0
  · obtain ⟨n, i3, h3, e3, _, _, _, c3⟩ := spec_l1Below_eq b i2 h2 7 c2
    exact ⟨⟨n, x.f1, x.f2, x.f3⟩, i3, h3, Ev.bind hcp (Ev.bind (ev_of e) (ev_pos h0 (Ev.bind (ev_of e3) (Ev.now _)))), by rw [budI]; omega, c3⟩
  by_cases h1 : v = 1
  · obtain ⟨n, i3, h3, e3, _, c3⟩ := spec_l1Int_eq b i2 h2 [(-1), 1000000000001, 1000001, 3] (by decide) c2
    exact ⟨⟨x.f0, n, x.f2, x.f3⟩, i3, h3, Ev.bind hcp (Ev.bind (ev_of e) (ev_neg h0 (ev_pos h1 (Ev.bind (ev_of e3) (Ev.now _))))), by rw [budI]; omega, c3⟩
  by_cases h2' : v = 2
  · obtain ⟨s, i3, h3, e3, hs, c3⟩ := spec_l1Str_eq b i2 h2 [(⟨#[]⟩ : ByteArray), (⟨#[65]⟩ : ByteArray), (⟨#[120]⟩ : ByteArray), (⟨#[116, 119, 101, 110, 116, 121, 111, 110, 101, 98, 121, 116, 101, 115, 116, 119, 101, 110, 116, 121, 111]⟩ : ByteArray)] (by decide) c2
    have hs2 : s.size ≤ 21 := by
      simp only [List.mem_cons, List.not_mem_nil, or_false] at hs
      rcases hs with rfl | rfl | rfl | rfl <;> decide
    exact ⟨⟨x.f0, x.f1, s, x.f3⟩, i3, h3, Ev.bind hcp (Ev.bind (ev_of e) (ev_neg h0 (ev_neg h1 (ev_pos h2' (Ev.bind (ev_of e3) (Ev.now _)))))), by rw [budI]; omega, c3⟩
  by_cases h3' : v = 3
  · have hlen := budIL_len x.f3
    refine ⟨⟨x.f0, x.f1, x.f2, x.f3 ++ [⟨1, 4, ⟨#[]⟩, []⟩]⟩, i2, h2, Ev.bind hcp (Ev.bind (ev_of e) (ev_neg h0 (ev_neg h1 (ev_neg h2' (ev_pos h3' (ev_pos ?_ (Ev.now _))))))), ?_, c2⟩
    · show x.f3.length < _; omega
    · rw [budI, budIL_app, budIL_one, budI, budIL]
      have : (⟨#[]⟩ : ByteArray).size = 0 := rfl
      omega
  by_cases h4' : v = 4
  · obtain ⟨y, ey, hy⟩ := spec_l2Bend_l b i2 h2 8 0 x (by omega)
    exact ⟨y, i2, h2, Ev.bind hcp (Ev.bind (ev_of e) (ev_neg h0 (ev_neg h1 (ev_neg h2' (ev_neg h3' (ev_pos h4' ey)))))), by omega, c2⟩
  · exact ⟨x, i2, h2, Ev.bind hcp (Ev.bind (ev_of e) (ev_neg h0 (ev_neg h1 (ev_neg h2' (ev_neg h3' (ev_neg h4' (Ev.now _))))))), by omega, c2⟩
theorem spec_l2Any_ev (b : List Int) (i h : Int) (hc : Cur b i) : ∃ (y : S29) (i2 h2 : Int), Ev (fun k => spec_l2Any.f k b i h) (y.f0, y.f1, y.f2, y.f3, i2, h2) ∧ budI y ≤ 200 ∧ Cur b i2 := by
  obtain ⟨x, i2, h2, e, hx, c2⟩ := spec_l2Draw_all b 3 (by omega) i h hc
  have hx2 := drawB_hi 3 (by omega)
  obtain ⟨v, i3, h3, e3, c3⟩ := spec_l1Once_eq b i2 h2 5 c2
  unfold spec_l2Any.f
  cases v with
  | true =>
    obtain ⟨y, i4, h4, e4, hy, c4⟩ := spec_l2Bend_ev b i3 h3 c3 x (by omega)
    exact ⟨y, i4, h4, Ev.bind e (Ev.bind (ev_of e3) (ev_pos rfl (Ev.bind e4 (Ev.now _)))), by omega, c4⟩
  | false =>
    exact ⟨x, i3, h3, Ev.bind e (Ev.bind (ev_of e3) (ev_neg (fun hf : false = true => Bool.noConfusion hf) (Ev.now _))), by omega, c3⟩
theorem spec_l1New_l (l : List Int) (hl : (l.length : Int) ≤ 1048576) (d : Nat) : ∀ (i : Nat) (h : Int), i + d = l.length → ∃ h2, Ev (fun k => spec_l1New.l0 k l h i) (l, 0, h2) := by
  induction d with
  | zero =>
    intro i h hi
    refine ⟨h, Ev.step (f := fun _ => some (l, 0, h)) (fun k => ?_) (Ev.now _)⟩
    simp only [spec_l1New.l0]; rw [if_neg (by omega)]
  | succ d ih =>
    intro i h hi
    by_cases h4 : (i : Int) < 4000
    · obtain ⟨h2, e⟩ := ih (i + 1) (Go.bits .and .i64 (wrap64 ((wrap64 ((wrap64 (h * 137)) + (wrap64 (rd l i)))) + 11)) 1073741823) (by omega)
      refine ⟨h2, Ev.step (fun k => ?_) e⟩
      simp only [spec_l1New.l0]; rw [if_pos (by omega), if_pos h4, if_pos (by omega), w64 ((i : Int) + 1) (by omega) (by omega)]
      rfl
    · refine ⟨h, Ev.step (f := fun _ => some (l, 0, h)) (fun k => ?_) (Ev.now _)⟩
      simp only [spec_l1New.l0]; rw [if_pos (by omega), if_neg h4]
theorem spec_l1New_ev (l : List Int) (hl : (l.length : Int) ≤ 1048576) : ∃ h, Ev (fun k => spec_l1New.f k l) (l, 0, h) := spec_l1New_l l hl l.length 0 _ (by omega)
theorem spec_DrawSameTerm_ev (l : List Int) (hl : (l.length : Int) ≤ 1048576) : ∃ x y : S29, Ev (fun k => spec_DrawSameTerm.f k l) (x.f0, x.f1, x.f2, x.f3, y.f0, y.f1, y.f2, y.f3) ∧ budI x ≤ 300 ∧ budI y ≤ 300 := by
  obtain ⟨h, e0⟩ := spec_l1New_ev l hl
  obtain ⟨x, i2, h2, e1, hx, c2⟩ := spec_l2Any_ev l 0 h ⟨by omega, by omega, by omega⟩
  obtain ⟨v, i3, h3, e2, v0, v1, _, c3⟩ := spec_l1Below_eq l i2 h2 3 c2
  unfold spec_DrawSameTerm.f
  by_cases hv : v = 0
  · exact ⟨x, x, Ev.bind e0 (Ev.bind e1 (Ev.bind (ev_of e2) (ev_pos hv (Ev.bind (spec_l2Copy_all x (by omega)) (Ev.now _))))), by omega, by omega⟩
  · by_cases hv1 : v = 1
    · obtain ⟨y, i4, h4, e3, hy, _⟩ := spec_l2Bend_ev l i3 h3 c3 x (by omega)
      exact ⟨x, y, Ev.bind e0 (Ev.bind e1 (Ev.bind (ev_of e2) (ev_neg hv (ev_pos hv1 (Ev.bind e3 (Ev.now _)))))), by omega, by omega⟩
    · obtain ⟨y, i4, h4, e3, hy, _⟩ := spec_l2Any_ev l i3 h3 c3
      exact ⟨x, y, Ev.bind e0 (Ev.bind e1 (Ev.bind (ev_of e2) (ev_neg hv (ev_neg hv1 (Ev.bind e3 (Ev.now _)))))), by omega, by omega⟩
mutual
def sameM : S29 → S29 → Bool
  | ⟨a, b, s, l⟩, y => decide (a = y.f0) && (decide (b = y.f1) && (decide (s.toList = y.f2.toList) && sameML l y.f3))
def sameML : List S29 → List S29 → Bool
  | [], l => l.isEmpty
  | x :: r, l => match l with
    | [] => false
    | y :: r2 => sameM x y && sameML r r2
end
theorem sameML_len : ∀ l m, sameML l m = true → l.length = m.length
  | [], m, h => by rw [sameML] at h; cases m <;> simp_all
  | x :: r, [], h => by rw [sameML] at h; cases h
  | x :: r, y :: r2, h => by
    rw [sameML, Bool.and_eq_true] at h
    rw [List.length_cons, List.length_cons, sameML_len r r2 h.2]
theorem impl_Same_loop (l m : List S29) (hl : (budIL l : Int) ≤ 4194304) (hm : l.length = m.length)
    (h : ∀ y ∈ l, ∀ z, Ev (fun k => impl_SameTerm.f k y.f0 y.f1 y.f2 y.f3 z.f0 z.f1 z.f2 z.f3) (sameM y z)) (d : Nat) : ∀ (i : Nat), i + d = l.length → Ev (fun k => slices_EqualFunc_of_impl_SameTerm.l0 k m l (l.length : Int) i) (sameML (l.drop i) (m.drop i)) := by
  have hlen := budIL_len l
  induction d with
  | zero =>
    intro i hi
    refine Ev.step (f := fun _ => some true) (fun k => ?_) (ev_cast ?_ (Ev.now _))
    · simp only [slices_EqualFunc_of_impl_SameTerm.l0]; rw [if_neg (by omega)]
    · rw [List.drop_eq_nil_of_le (by omega), List.drop_eq_nil_of_le (by omega)]; rfl
  | succ d ih =>
    intro i hi
    have hlt : i < l.length := by omega
    have e := h _ (rdI_mem l i hlt) (rd_T29 m i)
    have hn := ih (i + 1) (by omega)
    rw [dropI l i hlt, dropI m i (by omega), sameML]
    generalize hy : rd_T29 l i = y at *
    generalize hz : rd_T29 m i = z at *
    refine Ev.step (f := fun k => (impl_SameTerm.f k y.f0 y.f1 y.f2 y.f3 z.f0 z.f1 z.f2 z.f3).bind fun t => (if t = true then (slices_EqualFunc_of_impl_SameTerm.l0 k m l (l.length : Int) (wrap64 ((i : Int) + 1))) else (some false))) (fun k => ?_) (Ev.bind e ?_)
    · simp only [slices_EqualFunc_of_impl_SameTerm.l0]; rw [if_pos (by omega), if_pos (by omega), if_pos (by omega), if_pos (by omega), hy, hz]
    · rw [w64 _ (by omega) (by omega)]
      cases hs : sameM y z with
      | true => exact ev_pos rfl hn
      | false => exact ev_neg (by decide) (Ev.now _)
theorem impl_EqualFunc_of (l m : List S29) (hl : (budIL l : Int) ≤ 4194304)
    (h : ∀ y ∈ l, ∀ z, Ev (fun k => impl_SameTerm.f k y.f0 y.f1 y.f2 y.f3 z.f0 z.f1 z.f2 z.f3) (sameM y z)) : Ev (fun k => slices_EqualFunc_of_impl_SameTerm.f k l m) (sameML l m) := by
  by_cases h4 : l.length = m.length
  · refine Ev.step (fun k => ?_) (impl_Same_loop l m hl h4 h l.length 0 (by omega))
    simp only [slices_EqualFunc_of_impl_SameTerm.f]; rw [if_pos (by omega)]; rfl
  · refine Ev.step (f := fun _ => some false) (fun k => ?_) (ev_cast ?_ (Ev.now _))
    · simp only [slices_EqualFunc_of_impl_SameTerm.f]; rw [if_neg (by omega)]
    · cases hs : sameML l m with
      | true => exact absurd (sameML_len l m hs) h4
      | false => rfl
theorem impl_Same_all : ∀ x, (budI x : Int) ≤ 4194304 → ∀ z, Ev (fun k => impl_SameTerm.f k x.f0 x.f1 x.f2 x.f3 z.f0 z.f1 z.f2 z.f3) (sameM x z) := by
  refine indI ?_
  intro a b s l ih hb z
  rw [budI] at hb
  obtain ⟨a2, b2, s2, m⟩ := z
  have e := impl_EqualFunc_of l m (by omega) (fun y hy z => ih y hy (by have := budI_mem l y hy; omega) z)
  rw [sameM]
  simp only []
  by_cases h1 : a = a2
  · by_cases h2 : b = b2
    · by_cases h3 : s.toList = s2.toList
      · refine Ev.step (f := fun k => (slices_EqualFunc_of_impl_SameTerm.f k l m).bind fun t => some t) (fun k => ?_) (Ev.bind e (ev_cast ?_ (Ev.now _)))
        · simp only [impl_SameTerm.f]; rw [if_pos h1, if_pos h2, if_pos h3]
        · simp [h1, h2, h3]
      · refine Ev.step (f := fun _ => some false) (fun k => ?_) (ev_cast ?_ (Ev.now _))
        · simp only [impl_SameTerm.f]; rw [if_pos h1, if_pos h2, if_neg h3]
        · simp [h3]
    · refine Ev.step (f := fun _ => some false) (fun k => ?_) (ev_cast ?_ (Ev.now _))
      · simp only [impl_SameTerm.f]; rw [if_pos h1, if_neg h2]
      · simp [h2]
  · refine Ev.step (f := fun _ => some false) (fun k => ?_) (ev_cast ?_ (Ev.now _))
    · simp only [impl_SameTerm.f]; rw [if_neg h1]
    · simp [h1]
theorem spec_Same_loop (a b : Int) (s : ByteArray) (l : List S29) (a2 b2 : Int) (s2 : ByteArray) (m : List S29) (hl : (budIL l : Int) ≤ 4194304) (hm : l.length = m.length)
    (h : ∀ y ∈ l, ∀ z, Ev (fun k => spec_SameTerm.f k y.f0 y.f1 y.f2 y.f3 z.f0 z.f1 z.f2 z.f3) (sameM y z)) (d : Nat) : ∀ (i : Nat), i + d = l.length → Ev (fun k => spec_SameTerm.l0 k i a b s l a2 b2 s2 m) (sameML (l.drop i) (m.drop i)) := by
  have hlen := budIL_len l
  induction d with
  | zero =>
    intro i hi
    refine Ev.step (f := fun _ => some true) (fun k => ?_) (ev_cast ?_ (Ev.now _))
    · simp only [spec_SameTerm.l0]; rw [if_neg (by omega)]
    · rw [List.drop_eq_nil_of_le (by omega), List.drop_eq_nil_of_le (by omega)]; rfl
  | succ d ih =>
    intro i hi
    have hlt : i < l.length := by omega
    have e := h _ (rdI_mem l i hlt) (rd_T29 m i)
    have hn := ih (i + 1) (by omega)
    rw [dropI l i hlt, dropI m i (by omega), sameML]
    generalize hy : rd_T29 l i = y at *
    generalize hz : rd_T29 m i = z at *
    refine Ev.step (f := fun k => (spec_SameTerm.f k y.f0 y.f1 y.f2 y.f3 z.f0 z.f1 z.f2 z.f3).bind fun t => (if t = true then (spec_SameTerm.l0 k (wrap64 ((i : Int) + 1)) a b s l a2 b2 s2 m) else (some false))) (fun k => ?_) (Ev.bind e ?_)
    · simp only [spec_SameTerm.l0]; rw [if_pos (by omega), if_pos (by omega), if_pos (by omega), hy, hz]
    · rw [w64 _ (by omega) (by omega)]
      cases hs : sameM y z with
      | true => exact ev_pos rfl hn
      | false => exact ev_neg (by decide) (Ev.now _)
theorem spec_Same_all : ∀ x, (budI x : Int) ≤ 4194304 → ∀ z, Ev (fun k => spec_SameTerm.f k x.f0 x.f1 x.f2 x.f3 z.f0 z.f1 z.f2 z.f3) (sameM x z) := by
  refine indI ?_
  intro a b s l ih hb z
  rw [budI] at hb
  obtain ⟨a2, b2, s2, m⟩ := z
  have no : Ev (fun k => spec_SameTerm.j0 k true a b s l a2 b2 s2 m) false := Ev.step (f := fun _ => some false) (fun k => by simp [spec_SameTerm.j0]) (Ev.now _)
  rw [sameM]
  simp only []
  by_cases h1 : a = a2
  · by_cases h2 : b = b2
    · by_cases h3 : s.toList = s2.toList
      · by_cases h4 : l.length = m.length
        · have e := spec_Same_loop a b s l a2 b2 s2 m (by omega) h4 (fun y hy z => ih y hy (by have := budI_mem l y hy; omega) z) l.length 0 (by omega)
          refine Ev.step (f := fun k => spec_SameTerm.j0 k false a b s l a2 b2 s2 m) (fun k => ?_) (Ev.step (fun k => ?_) (ev_cast ?_ e))
          · simp only [spec_SameTerm.f]; rw [if_pos h1, if_pos h2, if_pos h3, h4]; simp
          · simp only [spec_SameTerm.j0]; rw [if_neg (by decide)]; rfl
          · simp [h1, h2, h3]
        · refine Ev.step (fun k => ?_) (ev_cast ?_ no)
          · simp only [spec_SameTerm.f]; rw [if_pos h1, if_pos h2, if_pos h3]
            congr 1
            simp; omega
          · cases hs : sameML l m with
            | true => exact absurd (sameML_len l m hs) h4
            | false => simp
      · refine Ev.step (fun k => ?_) (ev_cast ?_ no)
        · simp only [spec_SameTerm.f]; rw [if_pos h1, if_pos h2, if_neg h3]
        · simp [h3]
    · refine Ev.step (fun k => ?_) (ev_cast ?_ no)
      · simp only [spec_SameTerm.f]; rw [if_pos h1, if_neg h2]
      · simp [h2]
  · refine Ev.step (fun k => ?_) (ev_cast ?_ no)
    · simp only [spec_SameTerm.f]; rw [if_neg h1]
    · simp [h1]
def lowB (c : Int) : Bool := decide (97 ≤ c) && decide (c ≤ 122)
def digB (c : Int) : Bool := decide (48 ≤ c) && decide (c ≤ 57)
def atomB (c : Int) : Bool := lowB c || (digB c || decide (c = 95))
def atomFrom (s : ByteArray) (i : Nat) : Bool := (List.range' i (s.size - i)).all fun j => lowB (bt s j) || (!decide (j = 0) && (digB (bt s j) || decide (bt s j = 95)))
def atomOkM (s : ByteArray) : Bool := atomFrom s 0 && (decide (1 ≤ (s.size : Int)) && decide ((s.size : Int) ≤ 20))
theorem atomFrom_end (s : ByteArray) (i : Nat) (h : s.size ≤ i) : atomFrom s i = true := by
  unfold atomFrom
  rw [Nat.sub_eq_zero_of_le h]; rfl
theorem atomFrom_step (s : ByteArray) (i : Nat) (h : i < s.size) : atomFrom s i = ((lowB (bt s i) || (!decide (i = 0) && (digB (bt s i) || decide (bt s i = 95)))) && atomFrom s (i + 1)) := by
  unfold atomFrom
  obtain ⟨n, hn⟩ : ∃ n, s.size - i = n + 1 := ⟨s.size - i - 1, by omega⟩
  rw [hn, show s.size - (i + 1) = n from by omega, List.range'_succ]
  simp [List.all_cons]
theorem wbt (s : ByteArray) (i : Int) : wrap64 (bt s i) = bt s i := by
  have := bt_range s i
  exact w64 _ (by omega) (by omega)
mutual
def countM : S29 → Nat
  | ⟨_, _, _, l⟩ => 1 + countML l
def countML : List S29 → Nat
  | [] => 0
  | x :: r => countM x + countML r
end
mutual
theorem count_bud : ∀ x, countM x ≤ 1 + budI x
  | ⟨a, b, s, l⟩ => by rw [countM, budI]; have := countL_bud l; omega
theorem countL_bud : ∀ l, countML l ≤ budIL l
  | [] => by rw [countML]; omega
  | x :: r => by rw [countML, budIL]; have := count_bud x; have := countL_bud r; omega
end
def noText (s : ByteArray) : Bool := decide (s.toList = ([] : List UInt8))
def shapeM (a b : Int) (s : ByteArray) (l : List S29) : Bool :=
  if a = 1 then (decide (-1000000000000 ≤ b) && decide (b ≤ 1000000000000)) && (noText s && ((l.length : Int) == 0))
  else if a = 2 then atomOkM s && (decide (b = 0) && ((l.length : Int) == 0))
  else if a = 3 then (decide (0 ≤ b) && decide (b ≤ 1000000)) && (noText s && ((l.length : Int) == 0))
  else if a = 4 then decide (b = 0) && (noText s && decide ((l.length : Int) ≤ 20))
  else if a = 5 then decide (b = 0) && (noText s && decide ((l.length : Int) ≤ 60))
  else false
mutual
def goodM : S29 → Nat → Bool
  | ⟨a, b, s, l⟩, n => match n with
    | 0 => false
    | n + 1 => shapeM a b s l && goodML l n
def goodML : List S29 → Nat → Bool
  | [], _ => true
  | x :: r, n => goodM x n && goodML r n
end
def termOkM (x : S29) : Bool := goodM x 8 && decide (countM x ≤ 300)
theorem count_pos (x : S29) : 1 ≤ countM x := by
  cases x; rw [countM]; omega
theorem spec_l1In_eq (a b c : Int) : spec_l1In.f a b c = some (decide (b ≤ a) && decide (a ≤ c)) := by
  unfold spec_l1In.f
  by_cases h : b ≤ a <;> simp [h]
theorem spec_AtomOk_l (s : ByteArray) (hs : s.size ≤ 140737488351232) (d : Nat) : ∀ i : Nat, i + d = s.size → Ev (fun k => spec_AtomOk.l0 k s i) (atomFrom s i && (decide (1 ≤ (s.size : Int)) && decide ((s.size : Int) ≤ 20))) := by
  induction d with
  | zero =>
    intro i hi
    refine Ev.step (f := fun _ => some (decide (1 ≤ (s.size : Int)) && decide ((s.size : Int) ≤ 20))) (fun k => ?_) (ev_cast ?_ (Ev.now _))
    · simp only [spec_AtomOk.l0]
      rw [if_neg (by omega), spec_l1In_eq]; rfl
    · rw [atomFrom_end s i (by omega)]; rfl
  | succ d ih =>
    intro i hi
    have hlt : i < s.size := by omega
    have hn := ih (i + 1) (by omega)
    rw [atomFrom_step s i hlt]
    by_cases h1 : lowB (bt s i) = true
    · refine Ev.step (fun k => ?_) (ev_cast ?_ hn)
      · simp only [spec_AtomOk.l0]
        rw [if_pos (by omega), if_pos (by omega), wbt, spec_l1In_eq]
        simp only [Option.bind_some]
        unfold lowB at h1
        rw [if_pos h1, w64 _ (by omega) (by omega)]
        rfl
      · rw [h1]; rfl
    · have h1' : lowB (bt s i) = false := by simpa using h1
      by_cases h0 : i = 0
      · refine Ev.step (f := fun _ => some false) (fun k => ?_) (ev_cast ?_ (Ev.now _))
        · simp only [spec_AtomOk.l0]
          rw [if_pos (by omega), if_pos (by omega), wbt, spec_l1In_eq]
          simp only [Option.bind_some]
          unfold lowB at h1
          rw [if_neg h1, if_pos (by omega)]
        · rw [h1']; simp [h0]
      · by_cases h2 : digB (bt s i) = true
        · refine Ev.step (fun k => ?_) (ev_cast ?_ hn)
          · simp only [spec_AtomOk.l0]
            rw [if_pos (by omega), if_pos (by omega), wbt, spec_l1In_eq]
            simp only [Option.bind_some]
            unfold lowB at h1; unfold digB at h2
            rw [if_neg h1, if_neg (by omega), spec_l1In_eq]
            simp only [Option.bind_some]
            rw [if_pos h2, w64 _ (by omega) (by omega)]
            rfl
          · rw [h2]; simp [h0]
        · have h2' : digB (bt s i) = false := by simpa using h2
          by_cases h3 : bt s i = 95
          · refine Ev.step (fun k => ?_) (ev_cast ?_ hn)
            · simp only [spec_AtomOk.l0]
              rw [if_pos (by omega), if_pos (by omega), wbt, spec_l1In_eq]
              simp only [Option.bind_some]
              unfold lowB at h1; unfold digB at h2
              rw [if_neg h1, if_neg (by omega), spec_l1In_eq]
              simp only [Option.bind_some]
              rw [if_neg h2, if_pos h3, w64 _ (by omega) (by omega)]
              rfl
            · simp [h0, h3]
          · refine Ev.step (f := fun _ => some false) (fun k => ?_) (ev_cast ?_ (Ev.now _))
            · simp only [spec_AtomOk.l0]
              rw [if_pos (by omega), if_pos (by omega), wbt, spec_l1In_eq]
              simp only [Option.bind_some]
              unfold lowB at h1; unfold digB at h2
              rw [if_neg h1, if_neg (by omega), spec_l1In_eq]
              simp only [Option.bind_some]
              rw [if_neg h2, if_neg h3]
            · rw [h1', h2']; simp [h3]
theorem spec_AtomOk_ev (s : ByteArray) (hs : s.size ≤ 140737488351232) : Ev (fun k => spec_AtomOk.f k s) (atomOkM s) := spec_AtomOk_l s hs s.size 0 (by omega)
theorem spec_l2Shape_ev (a b : Int) (s : ByteArray) (l : List S29) (hs : s.size ≤ 140737488351232) : Ev (fun k => spec_l2Shape.f k a b s l) (shapeM a b s l) := by
  unfold spec_l2Shape.f shapeM noText
  by_cases h1 : a = 1
  · rw [if_pos h1]
    refine ev_pos h1 (ev_of ?_)
    rw [spec_l1In_eq]
    simp only [Option.bind_some]
    by_cases p : (decide (-1000000000000 ≤ b) && decide (b ≤ 1000000000000)) = true
    · by_cases q : s.toList = ([] : List UInt8)
      · rw [if_pos p, if_pos q, p, decide_eq_true q]; rfl
      · rw [if_pos p, if_neg q, p, decide_eq_false q]; rfl
    · rw [if_neg p, Bool.eq_false_iff.mpr p]; rfl
  rw [if_neg h1]
  refine ev_neg h1 ?_
  by_cases h2 : a = 2
  · rw [if_pos h2]
    refine ev_pos h2 (Ev.bind (spec_AtomOk_ev s hs) ?_)
    cases hA : atomOkM s with
    | true =>
      by_cases q : b = 0
      · exact ev_pos rfl (ev_pos q (ev_cast (by rw [decide_eq_true q]; rfl) (Ev.now _)))
      · exact ev_pos rfl (ev_neg q (ev_cast (by rw [decide_eq_false q]; rfl) (Ev.now _)))
    | false => exact ev_neg (by decide) (Ev.now _)
  rw [if_neg h2]
  refine ev_neg h2 (ev_of ?_)
  by_cases h3 : a = 3
  · rw [if_pos h3, if_pos h3, spec_l1In_eq]
    simp only [Option.bind_some]
    by_cases p : (decide (0 ≤ b) && decide (b ≤ 1000000)) = true
    · by_cases q : s.toList = ([] : List UInt8)
      · rw [if_pos p, if_pos q, p, decide_eq_true q]; rfl
      · rw [if_pos p, if_neg q, p, decide_eq_false q]; rfl
    · rw [if_neg p, Bool.eq_false_iff.mpr p]; rfl
  rw [if_neg h3, if_neg h3]
  by_cases h4 : a = 4
  · rw [if_pos h4, if_pos h4]
    by_cases p : b = 0
    · by_cases q : s.toList = ([] : List UInt8)
      · rw [if_pos p, if_pos q, decide_eq_true p, decide_eq_true q]; rfl
      · rw [if_pos p, if_neg q, decide_eq_true p, decide_eq_false q]; rfl
    · rw [if_neg p, decide_eq_false p]; rfl
  rw [if_neg h4, if_neg h4]
  by_cases h5 : a = 5
  · rw [if_pos h5, if_pos h5]
    by_cases p : b = 0
    · by_cases q : s.toList = ([] : List UInt8)
      · rw [if_pos p, if_pos q, decide_eq_true p, decide_eq_true q]; rfl
      · rw [if_pos p, if_neg q, decide_eq_true p, decide_eq_false q]; rfl
    · rw [if_neg p, decide_eq_false p]; rfl
  · rw [if_neg h5, if_neg h5]
def lookRes (left : Int) (g : Bool) (c : Nat) : Int := if g = true ∧ (c : Int) ≤ left then left - c else -1
theorem spec_l2Look_loop (a b : Int) (s : ByteArray) (l : List S29) (hl : (budIL l : Int) ≤ 4194304) (n : Nat) (hn : n ≤ 8)
    (h : ∀ y ∈ l, ∀ left : Int, -1 ≤ left → left ≤ 300 → Ev (fun k => spec_l2Look.f k y.f0 y.f1 y.f2 y.f3 n left) (lookRes left (goodM y n) (countM y))) (d : Nat) :
    ∀ (i : Nat) (left : Int), i + d = l.length → -1 ≤ left → left ≤ 300 → Ev (fun k => spec_l2Look.l0 k (n + 1 : Int) left i a b s l) (if left = -1 then -1 else lookRes left (goodML (l.drop i) n) (countML (l.drop i))) := by
  have hlen := budIL_len l
  induction d with
  | zero =>
    intro i left hi h0 h1
    refine Ev.step (f := fun _ => some left) (fun k => ?_) (ev_cast ?_ (Ev.now _))
    · simp only [spec_l2Look.l0]; rw [if_neg (by omega)]
    · rw [List.drop_eq_nil_of_le (by omega), goodML, countML]
      by_cases hm : left = -1
      · rw [if_pos hm]; exact hm
      · rw [if_neg hm]; unfold lookRes; rw [if_pos ⟨rfl, by omega⟩]; omega
  | succ d ih =>
    intro i left hi h0 h1
    have hlt : i < l.length := by omega
    by_cases hm : left = -1
    · refine Ev.step (f := fun _ => some left) (fun k => ?_) (ev_cast ?_ (Ev.now _))
      · simp only [spec_l2Look.l0]; rw [if_pos (by omega), if_neg (by omega)]
      · rw [if_pos hm]; exact hm
    rw [if_neg hm]
    have e := h _ (rdI_mem l i hlt) left h0 h1
    rw [dropI l i hlt, goodML, countML]
    generalize hy : rd_T29 l i = y at *
    refine Ev.step (f := fun k => (spec_l2Look.f k y.f0 y.f1 y.f2 y.f3 n left).bind fun t => (spec_l2Look.l0 k (n + 1 : Int) t (wrap64 ((i : Int) + 1)) a b s l)) (fun k => ?_) (Ev.bind e ?_)
    · simp only [spec_l2Look.l0]; rw [if_pos (by omega), if_pos (by omega), if_pos (by omega), hy, w64 ((n : Int) + 1 - 1) (by omega) (by omega), show (n : Int) + 1 - 1 = n from by omega]
    · rw [w64 _ (by omega) (by omega)]
      have hr : -1 ≤ lookRes left (goodM y n) (countM y) ∧ lookRes left (goodM y n) (countM y) ≤ 300 := by
        unfold lookRes; split <;> omega
      refine ev_cast ?_ (ih (i + 1) _ (by omega) hr.1 hr.2)
      have hc := count_pos y
      cases hg : goodM y n with
      | false =>
        have hv : lookRes left false (countM y) = -1 := by unfold lookRes; simp
        rw [hv, if_pos rfl]
        unfold lookRes; simp
      | true =>
        by_cases hq : (countM y : Int) ≤ left
        · have hv : lookRes left true (countM y) = left - countM y := by unfold lookRes; rw [if_pos ⟨rfl, hq⟩]
          rw [hv, if_neg (by omega), Bool.true_and]
          unfold lookRes
          cases hg2 : goodML (l.drop (i + 1)) n with
          | false => simp
          | true =>
            by_cases hq2 : (countML (l.drop (i + 1)) : Int) ≤ left - countM y
            · rw [if_pos ⟨rfl, hq2⟩, if_pos ⟨rfl, by omega⟩]; omega
            · rw [if_neg (by omega), if_neg (by omega)]
        · have hv : lookRes left true (countM y) = -1 := by unfold lookRes; rw [if_neg (by omega)]
          rw [hv, if_pos rfl]
          unfold lookRes
          rw [if_neg (by omega)]
theorem spec_l2Look_all : ∀ x, (budI x : Int) ≤ 4194304 → ∀ (n : Nat), n ≤ 8 → ∀ left : Int, -1 ≤ left → left ≤ 300 → Ev (fun k => spec_l2Look.f k x.f0 x.f1 x.f2 x.f3 n left) (lookRes left (goodM x n) (countM x)) := by
  refine indI ?_
  intro a b s l ih hb n hn left h0 h1
  rw [budI] at hb
  simp only []
  have no : Ev (fun k => spec_l2Look.j0 k (n : Int) left true a b s l) (-1) := Ev.step (f := fun _ => some (-1)) (fun k => by simp [spec_l2Look.j0]) (Ev.now _)
  cases n with
  | zero =>
    refine Ev.step (fun k => ?_) (ev_cast ?_ no)
    · simp only [spec_l2Look.f]; rw [if_pos (by omega)]
    · rw [goodM]; unfold lookRes; simp
  | succ n =>
    rw [goodM, countM]
    by_cases hl1 : left < 1
    · refine Ev.step (fun k => ?_) (ev_cast ?_ no)
      · simp only [spec_l2Look.f]; rw [if_neg (by omega), if_pos hl1]
      · unfold lookRes; rw [if_neg (by omega)]
    refine Ev.step (f := fun k => (spec_l2Shape.f k a b s l).bind fun t => (spec_l2Look.j0 k ((n + 1 : Nat) : Int) left (!t) a b s l)) (fun k => ?_) (Ev.bind (spec_l2Shape_ev a b s l (by omega)) ?_)
    · simp only [spec_l2Look.f]; rw [if_neg (by omega), if_neg hl1]
    cases hsh : shapeM a b s l with
    | false => exact ev_cast (by unfold lookRes; simp) no
    | true =>
      have e := spec_l2Look_loop a b s l (by omega) n (by omega) (fun y hy left h0 h1 => ih y hy (by have := budI_mem l y hy; omega) n (by omega) left h0 h1) l.length 0 (left - 1) (by omega) (by omega) (by omega)
      refine Ev.step (fun k => ?_) (ev_cast ?_ e)
      · simp only [spec_l2Look.j0]; rw [if_neg (by decide), w64 _ (by omega) (by omega)]; rfl
      · rw [if_neg (by omega), List.drop_zero, Bool.true_and]
        unfold lookRes
        cases goodML l n with
        | false => simp
        | true =>
          by_cases hq : (countML l : Int) ≤ left - 1
          · rw [if_pos ⟨rfl, hq⟩, if_pos ⟨rfl, by omega⟩]; omega
          · rw [if_neg (by omega), if_neg (by omega)]
theorem spec_TermOk_ev (x : S29) (hb : (budI x : Int) ≤ 4194304) : Ev (fun k => spec_TermOk.f k x.f0 x.f1 x.f2 x.f3) (termOkM x) := by
  unfold spec_TermOk.f
  refine Ev.bind (spec_l2Look_all x hb 8 (by omega) 300 (by omega) (by omega)) (ev_cast ?_ (Ev.now _))
  unfold termOkM lookRes
  cases goodM x 8 with
  | false => simp
  | true =>
    by_cases hq : countM x ≤ 300
    · rw [if_pos ⟨rfl, by omega⟩, decide_eq_true hq]; simp; omega
    · rw [if_neg (by omega), decide_eq_false hq]; rfl
theorem ba_app (a b : List UInt8) : ((⟨a.toArray⟩ : ByteArray) ++ (⟨b.toArray⟩ : ByteArray)) = ⟨(a ++ b).toArray⟩ := by
  apply ByteArray.ext
  simp [ByteArray.data_append]
theorem ba_size (a : List UInt8) : (⟨a.toArray⟩ : ByteArray).size = a.length := by simp [ByteArray.size]
theorem dig_num (u : Nat) (h : u < 10) : strOfNums [(48 + (u : Int)) % 256] = ⟨[UInt8.ofNat (48 + u)].toArray⟩ := by
  unfold strOfNums
  have e : ((48 + (u : Int)) % 256).toNat = 48 + u := by omega
  simp [e]
theorem strconv_Itoa_eq (n : Int) (h0 : -9223372036854775808 ≤ n) (h1 : n ≤ 9223372036854775807) : strconv_Itoa.f n = some ⟨(Go.Lib.itoa n).toArray⟩ := by
  unfold strconv_Itoa.f
  rw [if_pos ⟨h0, h1⟩]
theorem size_len2 (s : ByteArray) : s.size = s.data.toList.length := by
  rw [Array.length_toList]; rfl
theorem decDigits_le : ∀ (m u : Nat), u < 10 ^ (m + 1) → (Go.Lib.decDigits u).length ≤ m + 1
  | 0, u, h => by rw [Go.Lib.decDigits_one (by omega)]; simp
  | m + 1, u, h => by
    by_cases hu : u < 10
    · rw [Go.Lib.decDigits_one hu]; simp
    · rw [Go.Lib.decDigits, dif_neg hu, List.length_append, List.length_singleton]
      have := decDigits_le m (u / 10) (by rw [Nat.pow_succ] at h; omega)
      omega
theorem itoa_le (n : Int) (h0 : -9223372036854775808 ≤ n) (h1 : n ≤ 9223372036854775807) : (Go.Lib.itoa n).length ≤ 20 := by
  unfold Go.Lib.itoa
  by_cases h : n < 0
  · rw [if_pos h]
    have := decDigits_le 18 n.natAbs (by omega)
    simp only [List.length_cons]; omega
  · rw [if_neg h]
    have := decDigits_le 18 n.toNat (by omega)
    omega
theorem ba_eta (s : ByteArray) : (⟨s.data.toList.toArray⟩ : ByteArray) = s := by
  cases s; simp
theorem ba_cat (a b : ByteArray) : (a ++ b).data.toList = a.data.toList ++ b.data.toList := by simp [ByteArray.data_append]
theorem ba_mk {a : ByteArray} {l : List UInt8} (h : a.data.toList = l) : a = ⟨l.toArray⟩ := by rw [← h, ba_eta]
def szRes (left : Int) (b : Nat) : Int := if (b : Int) ≤ left then left - b else -1
theorem getDG {α : Type} (z : α) (l : List α) (i : Nat) (h : i < l.length) : l.getD ((i : Int)).toNat z = l[i] := by
  simp [List.getD_eq_getElem?_getD, List.getElem?_eq_getElem h]
theorem map_loop {α β : Type} (L : Nat → List β → Int → Option (List β)) (f : α → β) (l : List α)
    (hstep : ∀ (i : Nat) (h : i < l.length) (x : List β) (r : List β), x.length = l.length → Ev (fun k => L k (x.set i (f l[i])) ((i + 1 : Nat) : Int)) r → Ev (fun k => L k x (i : Int)) r)
    (hend : ∀ x : List β, x.length = l.length → Ev (fun k => L k x (l.length : Int)) x) (d : Nat) :
    ∀ (i : Nat) (x : List β), i + d = l.length → x.length = l.length → x.take i = (l.map f).take i → Ev (fun k => L k x (i : Int)) (l.map f) := by
  induction d with
  | zero =>
    intro i x hi hx ht
    have e : i = l.length := by omega
    subst e
    refine ev_cast ?_ (hend x hx)
    rwa [List.take_of_length_le (by omega), List.take_of_length_le (by rw [List.length_map]; omega)] at ht
  | succ d ih =>
    intro i x hi hx ht
    have hlt : i < l.length := by omega
    refine hstep i hlt x _ hx (ih (i + 1) _ (by omega) (by simpa using hx) ?_)
    rw [List.take_succ_eq_append_getElem (by simpa using (by omega : i < x.length)), List.take_set_of_le (Nat.le_refl i), ht, List.take_succ_eq_append_getElem (by simpa using hlt)]
    simp
theorem map_loop0 {α β : Type} (L : Nat → List β → Int → Option (List β)) (f : α → β) (l : List α) (z : β)
    (hstep : ∀ (i : Nat) (h : i < l.length) (x : List β) (r : List β), x.length = l.length → Ev (fun k => L k (x.set i (f l[i])) ((i + 1 : Nat) : Int)) r → Ev (fun k => L k x (i : Int)) r)
    (hend : ∀ x : List β, x.length = l.length → Ev (fun k => L k x (l.length : Int)) x) : Ev (fun k => L k (List.replicate l.length z) 0) (l.map f) :=
  map_loop L f l hstep hend l.length 0 (List.replicate l.length z) (by omega) (by simp) (by simp)
def sumB {α : Type} (bud : α → Nat) : List α → Nat
  | [] => 0
  | x :: r => bud x + sumB bud r
theorem sumB_drop {α : Type} (bud : α → Nat) (l : List α) (i : Nat) (h : i < l.length) : sumB bud (l.drop i) = bud l[i] + sumB bud (l.drop (i + 1)) := by
  rw [List.drop_eq_getElem_cons h, sumB]
theorem sumB_mem {α : Type} (bud : α → Nat) : ∀ (l : List α) (x : α), x ∈ l → bud x ≤ sumB bud l
  | [], x, h => by cases h
  | y :: r, x, h => by
    rw [sumB]
    rcases List.mem_cons.1 h with rfl | h
    · omega
    · have := sumB_mem bud r x h; omega
theorem sz_loopG {α : Type} (L : Nat → Int → Int → Option Int) (bud : α → Nat) (l : List α)
    (hstep : ∀ (i : Nat) (h : i < l.length) (left r : Int), 0 ≤ left → left ≤ 1048576 → ((bud l[i] : Int) ≤ left → Ev (fun k => L k (left - bud l[i]) ((i + 1 : Nat) : Int)) r) → (¬ (bud l[i] : Int) ≤ left → r = -1) → Ev (fun k => L k left (i : Int)) r)
    (hend : ∀ left : Int, Ev (fun k => L k left (l.length : Int)) left) (d : Nat) :
    ∀ (i : Nat) (left : Int), i + d = l.length → 0 ≤ left → left ≤ 1048576 → Ev (fun k => L k left (i : Int)) (szRes left (sumB bud (l.drop i))) := by
  induction d with
  | zero =>
    intro i left hi h0 h1
    have e : i = l.length := by omega
    subst e
    refine ev_cast ?_ (hend left)
    rw [List.drop_eq_nil_of_le (by omega), sumB]; unfold szRes; rw [if_pos (by omega)]; omega
  | succ d ih =>
    intro i left hi h0 h1
    have hlt : i < l.length := by omega
    rw [sumB_drop bud l i hlt]
    refine hstep i hlt left _ h0 h1 (fun hb => ?_) (fun hb => ?_)
    · refine ev_cast ?_ (ih (i + 1) (left - bud l[i]) (by omega) (by omega) (by omega))
      unfold szRes
      by_cases hc : (sumB bud (l.drop (i + 1)) : Int) ≤ left - bud l[i]
      · rw [if_pos hc, if_pos (by omega)]; omega
      · rw [if_neg hc, if_neg (by omega)]
    · unfold szRes; rw [if_neg (by omega)]
def allFrom (p : Nat → Bool) (i d : Nat) : Bool := (List.range' i d).all p
theorem all_loop (L : Nat → Int → Option Bool) (p : Nat → Bool) (n : Nat)
    (hstep : ∀ (i : Nat), i < n → ∀ r, (p i = true → Ev (fun k => L k ((i + 1 : Nat) : Int)) r) → (p i = false → r = false) → Ev (fun k => L k (i : Int)) r)
    (hend : Ev (fun k => L k (n : Int)) true) (d : Nat) : ∀ i : Nat, i + d = n → Ev (fun k => L k (i : Int)) (allFrom p i d) := by
  induction d with
  | zero =>
    intro i hi
    have e : i = n := by omega
    subst e
    exact hend
  | succ d ih =>
    intro i hi
    refine hstep i (by omega) _ (fun hp => ?_) (fun hp => ?_)
    · refine ev_cast ?_ (ih (i + 1) (by omega))
      unfold allFrom
      rw [List.range'_succ, List.all_cons, hp, Bool.true_and]
    · unfold allFrom
      rw [List.range'_succ, List.all_cons, hp, Bool.false_and]
theorem joinTail_len (sep : List UInt8) : ∀ r : List (List UInt8), (Go.Lib.joinTail sep r).length = sumB (fun x => sep.length + x.length) r
  | [] => by simp [Go.Lib.joinTail, sumB]
  | x :: r => by
    have := joinTail_len sep r
    unfold Go.Lib.joinTail at this ⊢
    rw [List.map_cons, List.flatten_cons, List.length_append, this, sumB, List.length_append]
theorem join_cons (sep x : List UInt8) (r : List (List UInt8)) : Go.Lib.join (x :: r) sep = x ++ Go.Lib.joinTail sep r := Go.Lib.join_cons x r sep
theorem sumB_map {α β : Type} (f : β → Nat) (g : α → β) : ∀ l : List α, sumB f (l.map g) = sumB (fun x => f (g x)) l
  | [] => rfl
  | x :: r => by rw [List.map_cons, sumB, sumB, sumB_map f g r]
theorem sumB_le {α : Type} (f g : α → Nat) (c : Nat) : ∀ l : List α, (∀ x ∈ l, f x ≤ g x + c) → sumB f l ≤ sumB g l + c * l.length
  | [], _ => by simp [sumB]
  | x :: r, h => by
    have h1 := h x (List.mem_cons_self)
    have h2 := sumB_le f g c r (fun y hy => h y (List.mem_cons_of_mem _ hy))
    rw [sumB, sumB, List.length_cons, Nat.mul_add]
    omega
theorem join_len (sep : List UInt8) (l : List (List UInt8)) : (Go.Lib.join l sep).length ≤ sumB List.length l + sep.length * l.length := by
  cases l with
  | nil => simp [Go.Lib.join_nil, sumB]
  | cons x r =>
    rw [join_cons, List.length_append, joinTail_len, sumB, List.length_cons, Nat.mul_add]
    have := sumB_le (fun x => sep.length + x.length) List.length sep.length r (fun y _ => by omega)
    omega
theorem rdIx (l : List S29) (i : Nat) (h : i < l.length) : rd_T29 l (i : Int) = l[i] := getDG _ l i h
mutual
def txM : S29 → List UInt8
  | ⟨a, b, s, l⟩ => if a = 1 then Go.Lib.itoa b else if a = 2 then s.data.toList else if a = 3 then 60 :: (Go.Lib.itoa b ++ [62]) else (if a = 4 then 123 else 91) :: (Go.Lib.join (txL l) [44] ++ [if a = 4 then 125 else 93])
def txL : List S29 → List (List UInt8)
  | [] => []
  | x :: r => txM x :: txL r
end
theorem txL_map : ∀ l, txL l = l.map txM
  | [] => rfl
  | x :: r => by rw [txL, List.map_cons, txL_map r]
theorem goodM_mk {a b : Int} {s : ByteArray} {l : List S29} {n : Nat} (h : goodM ⟨a, b, s, l⟩ n = true) : ∃ m, n = m + 1 ∧ shapeM a b s l = true ∧ goodML l m = true := by
  cases n with
  | zero => rw [goodM] at h; cases h
  | succ m =>
    rw [goodM, Bool.and_eq_true] at h
    exact ⟨m, rfl, h.1, h.2⟩
theorem goodML_mem : ∀ (l : List S29) (n : Nat), goodML l n = true → ∀ y ∈ l, goodM y n = true
  | [], _, _, y, hy => by cases hy
  | x :: r, n, h, y, hy => by
    rw [goodML, Bool.and_eq_true] at h
    rcases List.mem_cons.1 hy with rfl | hy
    · exact h.1
    · exact goodML_mem r n h.2 y hy
theorem shape_num {a b : Int} {s : ByteArray} {l : List S29} (h : shapeM a b s l = true) (ha : a = 1 ∨ a = 3) : -1000000000000 ≤ b ∧ b ≤ 1000000000000 := by
  unfold shapeM at h
  rcases ha with rfl | rfl
  · rw [if_pos rfl] at h
    simp only [Bool.and_eq_true, decide_eq_true_eq] at h
    exact h.1
  · rw [if_neg (by decide), if_neg (by decide), if_pos rfl] at h
    simp only [Bool.and_eq_true, decide_eq_true_eq] at h
    omega
theorem tx_lenL : ∀ (l : List S29), (∀ y ∈ l, (txM y).length ≤ 25 * budI y + 24) → sumB List.length (txL l) + l.length ≤ 25 * budIL l
  | [], _ => by rw [txL, sumB, budIL]; simp
  | x :: r, h => by
    have h1 := h x List.mem_cons_self
    have h2 := tx_lenL r (fun y hy => h y (List.mem_cons_of_mem _ hy))
    rw [txL, sumB, budIL, List.length_cons]
    omega
theorem txL_len (l : List S29) : (txL l).length = l.length := by rw [txL_map, List.length_map]
theorem txM_len : ∀ x, ∀ n, goodM x n = true → (txM x).length ≤ 25 * budI x + 24 := by
  refine indI (fun a b s l ih n hg => ?_)
  obtain ⟨m, rfl, hs, hl⟩ := goodM_mk hg
  rw [txM, budI_mk]
  by_cases h1 : a = 1
  · rw [if_pos h1]
    have := shape_num hs (.inl h1)
    have := itoa_le b (by omega) (by omega)
    omega
  rw [if_neg h1]
  by_cases h2 : a = 2
  · rw [if_pos h2, ← size_len2]; omega
  rw [if_neg h2]
  by_cases h3 : a = 3
  · rw [if_pos h3]
    have := shape_num hs (.inr h3)
    have := itoa_le b (by omega) (by omega)
    simp only [List.length_cons, List.length_append, List.length_nil]
    omega
  rw [if_neg h3]
  have h4 := tx_lenL l (fun y hy => ih y hy m (goodML_mem l m hl y hy))
  have h5 := join_len [44] (txL l)
  rw [txL_len] at h5
  simp only [List.length_cons, List.length_append, List.length_nil] at h5 ⊢
  omega
def finT (a : Int) (t : List UInt8) : ByteArray := ⟨((if a = 4 then 123 else 91) :: (t ++ [if a = 4 then 125 else 93])).toArray⟩
theorem fin_eq (a : Int) (t : ByteArray) (ht : t.size ≤ 1000000000) : (if a = 4 then (if 1 + t.size ≤ 9223372036854775807 then (if ((⟨#[123]⟩ : ByteArray) ++ t).size + 1 ≤ 9223372036854775807 then (some (((⟨#[123]⟩ : ByteArray) ++ t) ++ (⟨#[125]⟩ : ByteArray))) else (none)) else (none)) else (if 1 + t.size ≤ 9223372036854775807 then (if ((⟨#[91]⟩ : ByteArray) ++ t).size + 1 ≤ 9223372036854775807 then (some (((⟨#[91]⟩ : ByteArray) ++ t) ++ (⟨#[93]⟩ : ByteArray))) else (none)) else (none))) = some (finT a t.data.toList) := by
  have q : ∀ c : UInt8, ((⟨#[c]⟩ : ByteArray) ++ t).size = 1 + t.size := fun c => by rw [ByteArray.size_append]; rfl
  unfold finT
  by_cases h : a = 4
  · rw [if_pos h, if_pos h, if_pos h, if_pos (by omega), if_pos (by rw [q]; omega)]
    exact congrArg some (ba_mk (by rw [ba_cat, ba_cat]; simp))
  · rw [if_neg h, if_neg h, if_neg h, if_pos (by omega), if_pos (by rw [q]; omega)]
    exact congrArg some (ba_mk (by rw [ba_cat, ba_cat]; simp))
theorem pid_eq (t : ByteArray) (ht : t.size ≤ 1000000000) : (if 1 + t.size ≤ 9223372036854775807 then (if ((⟨#[60]⟩ : ByteArray) ++ t).size + 1 ≤ 9223372036854775807 then (some (((⟨#[60]⟩ : ByteArray) ++ t) ++ (⟨#[62]⟩ : ByteArray))) else (none)) else (none)) = some (⟨(60 :: (t.data.toList ++ [62])).toArray⟩ : ByteArray) := by
  have q : ∀ c : UInt8, ((⟨#[c]⟩ : ByteArray) ++ t).size = 1 + t.size := fun c => by rw [ByteArray.size_append]; rfl
  rw [if_pos (by omega), if_pos (by rw [q]; omega)]
  exact congrArg some (ba_mk (by rw [ba_cat, ba_cat]; simp))
theorem c44 : (⟨#[44]⟩ : ByteArray).data.toList = [44] := rfl
theorem tx_sum (l : List S29) (n : Nat) (hg : goodML l n = true) (hb : (budIL l : Int) ≤ 4194304) : sumB (fun x => 1 + (txM x).length) l ≤ 500000000 := by
  have h : ∀ (l : List S29), (∀ y ∈ l, (txM y).length ≤ 25 * budI y + 24) → sumB (fun x => 1 + (txM x).length) l ≤ 25 * budIL l := by
    intro l
    induction l with
    | nil => intro _; rw [sumB, budIL]; omega
    | cons x r ih =>
      intro h
      have h1 := h x List.mem_cons_self
      have h2 := ih (fun y hy => h y (List.mem_cons_of_mem _ hy))
      rw [sumB, budIL]
      omega
  have := h l (fun y hy => txM_len y n (goodML_mem l n hg y hy))
  omega
def ttM (x : S29) : ByteArray := if termOkM x = true then ⟨(txM x).toArray⟩ else ⟨#[]⟩
theorem ttM_yes {x : S29} (h : termOkM x = true) : ⟨(txM x).toArray⟩ = ttM x := by unfold ttM; rw [if_pos h]
theorem ttM_no {x : S29} (h : ¬ termOkM x = true) : ⟨#[]⟩ = ttM x := by unfold ttM; rw [if_neg h]
theorem termOk_good {x : S29} (h : termOkM x = true) : goodM x 8 = true := by
  unfold termOkM at h
  rw [Bool.and_eq_true] at h
  exact h.1
theorem impl_inRange_eq (a b c : Int) : impl_inRange.f a b c = some (decide (b ≤ a) && decide (a ≤ c)) := by
  unfold impl_inRange.f
  by_cases h : b ≤ a <;> simp [h]
theorem impl_isSmall_eq (c : Int) : impl_isSmall.f c = some (lowB c) := by
  unfold impl_isSmall.f lowB
  by_cases h : 97 ≤ c <;> simp [h]
theorem impl_isFigure_eq (c : Int) : impl_isFigure.f c = some (digB c) := by
  unfold impl_isFigure.f digB
  by_cases h : 48 ≤ c <;> simp [h]
theorem impl_AtomOk_l (s : ByteArray) (hs : s.size ≤ 140737488351232) (d : Nat) : ∀ i : Nat, i + d = s.size → Ev (fun k => impl_AtomOk.l0 k s i) (atomFrom s i && (decide (1 ≤ (s.size : Int)) && decide ((s.size : Int) ≤ 20))) := by
  induction d with
  | zero =>
    intro i hi
    refine Ev.step (f := fun _ => some (decide (1 ≤ (s.size : Int)) && decide ((s.size : Int) ≤ 20))) (fun k => ?_) (ev_cast ?_ (Ev.now _))
    · simp only [impl_AtomOk.l0]
      rw [if_neg (by omega), impl_inRange_eq]; rfl
    · rw [atomFrom_end s i (by omega)]; rfl
  | succ d ih =>
    intro i hi
    have hlt : i < s.size := by omega
    have hn := ih (i + 1) (by omega)
    rw [atomFrom_step s i hlt]
    by_cases h1 : lowB (bt s i) = true
    · refine Ev.step (fun k => ?_) (ev_cast ?_ hn)
      · simp only [impl_AtomOk.l0]
        rw [if_pos (by omega), if_pos (by omega), impl_isSmall_eq]
        simp only [Option.bind_some]
        rw [if_pos h1, w64 _ (by omega) (by omega)]
        rfl
      · rw [h1]; rfl
    · have h1' : lowB (bt s i) = false := by simpa using h1
      by_cases h0 : i = 0
      · refine Ev.step (f := fun _ => some false) (fun k => ?_) (ev_cast ?_ (Ev.now _))
        · simp only [impl_AtomOk.l0]
          rw [if_pos (by omega), if_pos (by omega), impl_isSmall_eq]
          simp only [Option.bind_some]
          rw [if_neg h1, if_pos (by omega)]
        · rw [h1']; simp [h0]
      · by_cases h2 : digB (bt s i) = true
        · refine Ev.step (fun k => ?_) (ev_cast ?_ hn)
          · simp only [impl_AtomOk.l0]
            rw [if_pos (by omega), if_pos (by omega), impl_isSmall_eq]
            simp only [Option.bind_some]
            rw [if_neg h1, if_neg (by omega), impl_isFigure_eq]
            simp only [Option.bind_some]
            rw [if_pos h2, w64 _ (by omega) (by omega)]
            rfl
          · rw [h2]; simp [h0]
        · have h2' : digB (bt s i) = false := by simpa using h2
          by_cases h3 : bt s i = 95
          · refine Ev.step (fun k => ?_) (ev_cast ?_ hn)
            · simp only [impl_AtomOk.l0]
              rw [if_pos (by omega), if_pos (by omega), impl_isSmall_eq]
              simp only [Option.bind_some]
              rw [if_neg h1, if_neg (by omega), impl_isFigure_eq]
              simp only [Option.bind_some]
              rw [if_neg h2, if_pos h3, w64 _ (by omega) (by omega)]
              rfl
            · simp [h0, h3]
          · refine Ev.step (f := fun _ => some false) (fun k => ?_) (ev_cast ?_ (Ev.now _))
            · simp only [impl_AtomOk.l0]
              rw [if_pos (by omega), if_pos (by omega), impl_isSmall_eq]
              simp only [Option.bind_some]
              rw [if_neg h1, if_neg (by omega), impl_isFigure_eq]
              simp only [Option.bind_some]
              rw [if_neg h2, if_neg h3]
            · rw [h1', h2']; simp [h3]
theorem impl_AtomOk_ev (s : ByteArray) (hs : s.size ≤ 140737488351232) : Ev (fun k => impl_AtomOk.f k s) (atomOkM s) := impl_AtomOk_l s hs s.size 0 (by omega)
theorem impl_plainOk_ev (a b : Int) (s : ByteArray) (l : List S29) (hs : s.size ≤ 140737488351232) : Ev (fun k => impl_Term_plainOk.f k a b s l) (shapeM a b s l) := by
  unfold impl_Term_plainOk.f shapeM noText
  by_cases h1 : a = 1
  · rw [if_pos h1]
    refine ev_pos h1 (ev_of ?_)
    rw [impl_inRange_eq]
    simp only [Option.bind_some]
    by_cases p : (decide (-1000000000000 ≤ b) && decide (b ≤ 1000000000000)) = true
    · by_cases q : s.toList = ([] : List UInt8)
      · rw [if_pos p, if_pos q, p, decide_eq_true q]; rfl
      · rw [if_pos p, if_neg q, p, decide_eq_false q]; rfl
    · rw [if_neg p, Bool.eq_false_iff.mpr p]; rfl
  rw [if_neg h1]
  refine ev_neg h1 ?_
  by_cases h2 : a = 2
  · rw [if_pos h2]
    refine ev_pos h2 ?_
    by_cases q : b = 0
    · refine ev_pos q (Ev.bind (impl_AtomOk_ev s hs) ?_)
      cases hA : atomOkM s with
      | true => exact ev_pos rfl (ev_cast (by rw [decide_eq_true q]; rfl) (Ev.now _))
      | false => exact ev_neg (by decide) (Ev.now _)
    · exact ev_neg q (ev_cast (by rw [decide_eq_false q]; simp) (Ev.now _))
  rw [if_neg h2]
  refine ev_neg h2 (ev_of ?_)
  by_cases h3 : a = 3
  · rw [if_pos h3, if_pos h3, impl_inRange_eq]
    simp only [Option.bind_some]
    by_cases p : (decide (0 ≤ b) && decide (b ≤ 1000000)) = true
    · by_cases q : s.toList = ([] : List UInt8)
      · rw [if_pos p, if_pos q, p, decide_eq_true q]; rfl
      · rw [if_pos p, if_neg q, p, decide_eq_false q]; rfl
    · rw [if_neg p, Bool.eq_false_iff.mpr p]; rfl
  rw [if_neg h3, if_neg h3]
  by_cases h4 : a = 4
  · rw [if_pos h4, if_pos h4]
    by_cases p : b = 0
    · by_cases q : s.toList = ([] : List UInt8)
      · rw [if_pos p, if_pos q, decide_eq_true p, decide_eq_true q]; rfl
      · rw [if_pos p, if_neg q, decide_eq_true p, decide_eq_false q]; rfl
    · rw [if_neg p, decide_eq_false p]; rfl
  rw [if_neg h4, if_neg h4]
  by_cases h5 : a = 5
  · rw [if_pos h5, if_pos h5]
    by_cases p : b = 0
    · by_cases q : s.toList = ([] : List UInt8)
      · rw [if_pos p, if_pos q, decide_eq_true p, decide_eq_true q]; rfl
      · rw [if_pos p, if_neg q, decide_eq_true p, decide_eq_false q]; rfl
    · rw [if_neg p, decide_eq_false p]; rfl
  · rw [if_neg h5, if_neg h5]
def measRes (n0 : Nat) (g : Bool) (c : Nat) : Int := if g = true ∧ n0 + c ≤ 300 then ((n0 + c : Nat) : Int) else 301
theorem impl_measure_loop (l : List S29) (hl : (budIL l : Int) ≤ 4194304) (n : Nat) (dp : Int) (hd : dp + n = 8) (hd1 : 1 ≤ dp)
    (h : ∀ y ∈ l, Ev (fun k => impl_Term_measure.f k y.f0 y.f1 y.f2 y.f3 (dp + 1)) (measRes 0 (goodM y n) (countM y))) (d : Nat) :
    ∀ (i : Nat) (m : Nat), i + d = l.length → m ≤ 300 → Ev (fun k => impl_Term_measure.l0 k dp m l (l.length : Int) i) (measRes m (goodML (l.drop i) n) (countML (l.drop i))) := by
  have hlen := budIL_len l
  induction d with
  | zero =>
    intro i m hi hm
    refine Ev.step (f := fun _ => some (m : Int)) (fun k => ?_) (ev_cast ?_ (Ev.now _))
    · simp only [impl_Term_measure.l0]; rw [if_neg (by omega)]
    · rw [List.drop_eq_nil_of_le (by omega), goodML, countML]
      unfold measRes; rw [if_pos ⟨rfl, by omega⟩]; rfl
  | succ d ih =>
    intro i m hi hm
    have hlt : i < l.length := by omega
    have e := h _ (rdI_mem l i hlt)
    rw [dropI l i hlt, goodML, countML]
    generalize hy : rd_T29 l i = y at *
    refine Ev.step (f := fun k => (impl_Term_measure.f k y.f0 y.f1 y.f2 y.f3 (dp + 1)).bind fun t => (if (wrap64 ((m : Int) + t)) > 300 then (some 301) else (impl_Term_measure.l0 k dp (wrap64 ((m : Int) + t)) l (l.length : Int) (wrap64 ((i : Int) + 1))))) (fun k => ?_) (Ev.bind e ?_)
    · simp only [impl_Term_measure.l0]; rw [if_pos (by omega), if_pos (by omega), if_pos (by omega), hy, w64 (dp + 1) (by omega) (by omega)]
    · have hr : 0 ≤ measRes 0 (goodM y n) (countM y) ∧ measRes 0 (goodM y n) (countM y) ≤ 301 := by
        unfold measRes; split <;> omega
      rw [w64 _ (by omega) (by omega), w64 _ (by omega) (by omega)]
      cases hg : goodM y n with
      | false =>
        refine ev_pos (by unfold measRes; simp; omega) (ev_cast ?_ (Ev.now _))
        unfold measRes; simp
      | true =>
        by_cases hq : countM y ≤ 300
        · have hv : measRes 0 true (countM y) = countM y := by unfold measRes; rw [if_pos ⟨rfl, by omega⟩]; omega
          rw [hv]
          by_cases hq2 : (m : Int) + countM y > 300
          · refine ev_pos hq2 (ev_cast ?_ (Ev.now _))
            unfold measRes; rw [if_neg (by omega)]
          · refine ev_neg hq2 ?_
            have := ih (i + 1) (m + countM y) (by omega) (by omega)
            rw [show ((m + countM y : Nat) : Int) = (m : Int) + countM y from by omega] at this
            refine ev_cast ?_ this
            unfold measRes
            rw [Bool.true_and]
            cases goodML (l.drop (i + 1)) n with
            | false => simp
            | true =>
              by_cases hq3 : m + countM y + countML (l.drop (i + 1)) ≤ 300
              · rw [if_pos ⟨rfl, hq3⟩, if_pos ⟨rfl, by omega⟩]; omega
              · rw [if_neg (by omega), if_neg (by omega)]
        · have hv : measRes 0 true (countM y) = 301 := by unfold measRes; rw [if_neg (by omega)]
          rw [hv]
          refine ev_pos (by omega) (ev_cast ?_ (Ev.now _))
          unfold measRes; rw [if_neg (by omega)]
theorem impl_measure_all : ∀ x, (budI x : Int) ≤ 4194304 → ∀ (n : Nat) (dp : Int), dp + n = 9 → 1 ≤ dp → Ev (fun k => impl_Term_measure.f k x.f0 x.f1 x.f2 x.f3 dp) (measRes 0 (goodM x n) (countM x)) := by
  refine indI ?_
  intro a b s l ih hb n dp hd h1
  rw [budI] at hb
  simp only []
  have no : Ev (fun k => impl_Term_measure.j0 k dp true a b s l) 301 := Ev.step (f := fun _ => some 301) (fun k => by simp [impl_Term_measure.j0]) (Ev.now _)
  cases n with
  | zero =>
    refine Ev.step (fun k => ?_) (ev_cast ?_ no)
    · simp only [impl_Term_measure.f]; rw [if_pos (by omega)]
    · rw [goodM]; unfold measRes; simp
  | succ n =>
    rw [goodM, countM]
    refine Ev.step (f := fun k => (impl_Term_plainOk.f k a b s l).bind fun t => (impl_Term_measure.j0 k dp (!t) a b s l)) (fun k => ?_) (Ev.bind (impl_plainOk_ev a b s l (by omega)) ?_)
    · simp only [impl_Term_measure.f]; rw [if_neg (by omega)]
    cases hsh : shapeM a b s l with
    | false => exact ev_cast (by unfold measRes; simp) no
    | true =>
      have e := impl_measure_loop l (by omega) n dp (by omega) h1 (fun y hy => ih y hy (by have := budI_mem l y hy; omega) n (dp + 1) (by omega) (by omega)) l.length 0 1 (by omega) (by omega)
      refine Ev.step (fun k => ?_) (ev_cast ?_ e)
      · simp only [impl_Term_measure.j0]; rw [if_neg (by decide)]; rfl
      · rw [List.drop_zero, Bool.true_and]
        unfold measRes
        rw [Nat.zero_add]
theorem impl_TermOk_ev (x : S29) (hb : (budI x : Int) ≤ 4194304) : Ev (fun k => impl_TermOk.f k x.f0 x.f1 x.f2 x.f3) (termOkM x) := by
  unfold impl_TermOk.f
  refine Ev.bind (impl_measure_all x hb 8 1 (by omega) (by omega)) (ev_cast ?_ (Ev.now _))
  unfold termOkM measRes
  cases goodM x 8 with
  | false => simp
  | true =>
    by_cases hq : countM x ≤ 300
    · rw [if_pos ⟨rfl, by omega⟩, decide_eq_true hq]; simp; omega
    · rw [if_neg (by omega), decide_eq_false hq]; rfl
theorem impl_text_loop (a b : Int) (s : ByteArray) (l : List S29) (hl : (l.length : Int) ≤ 4194304) (h : ∀ y ∈ l, Ev (fun k => impl_Term_text.f k y.f0 y.f1 y.f2 y.f3) ⟨(txM y).toArray⟩) (hs : sumB (fun x => 1 + (txM x).length) l ≤ 500000000) (d : Nat) : ∀ (i : Nat), i + d = l.length →
    Ev (fun k => impl_Term_text.l0 k ((l.take i).map fun x => (⟨(txM x).toArray⟩ : ByteArray)) l (l.length : Int) i a b s l) (finT a (Go.Lib.join (txL l) [44])) := by
  induction d with
  | zero =>
    intro i hi
    have e1 : ((l.map fun x => (⟨(txM x).toArray⟩ : ByteArray)).map (·.data.toList)) = txL l := by rw [List.map_map, txL_map]; simp
    have h1 := join_len [44] (txL l)
    rw [txL_len] at h1
    have h2 : sumB List.length (txL l) + l.length ≤ 500000000 := by
      have : ∀ l : List S29, sumB List.length (txL l) + l.length = sumB (fun x => 1 + (txM x).length) l := by
        intro l
        induction l with
        | nil => rfl
        | cons x r ih => rw [txL, sumB, sumB, List.length_cons]; omega
      rw [this]; exact hs
    simp only [List.length_singleton] at h1
    have hj : strings_Join.f (l.map fun x => (⟨(txM x).toArray⟩ : ByteArray)) (⟨#[44]⟩ : ByteArray) = some ⟨(Go.Lib.join (txL l) [44]).toArray⟩ := by
      unfold strings_Join.f
      rw [e1, c44, if_pos]
      exact ⟨by rw [List.length_map]; omega, by omega⟩
    have hf := fin_eq a ⟨(Go.Lib.join (txL l) [44]).toArray⟩ (by rw [ba_size]; omega)
    refine Ev.step (f := fun _ => some (finT a (Go.Lib.join (txL l) [44]))) (fun k => ?_) (Ev.now _)
    simp only [impl_Term_text.l0]
    rw [if_neg (by omega), List.take_of_length_le (by omega), hj]
    simp only [Option.bind_some]
    exact hf
  | succ d ih =>
    intro i hi
    have hlt : i < l.length := by omega
    refine Ev.step (f := fun k => (impl_Term_text.f k l[i].f0 l[i].f1 l[i].f2 l[i].f3).bind fun t172 => (if ((l.take i).map fun x => (⟨(txM x).toArray⟩ : ByteArray)).length < 8796093022208 then (impl_Term_text.l0 k (((l.take i).map fun x => (⟨(txM x).toArray⟩ : ByteArray)) ++ [t172]) l (l.length : Int) (wrap64 ((i : Int) + 1)) a b s l) else (none))) (fun k => ?_) (Ev.bind (h l[i] (List.getElem_mem hlt)) (ev_pos (by rw [List.length_map, List.length_take]; omega) ?_))
    · simp only [impl_Term_text.l0]
      rw [if_pos (by omega), if_pos (by omega), if_pos (by omega), rdIx l i hlt]
    · rw [w64 _ (by omega) (by omega)]
      refine Ev.congr (fun k => ?_) (ih (i + 1) (by omega))
      rw [List.take_succ_eq_append_getElem hlt, List.map_append]
      rfl
theorem impl_text_all : ∀ x, (budI x : Int) ≤ 4194304 → ∀ n, goodM x n = true → Ev (fun k => impl_Term_text.f k x.f0 x.f1 x.f2 x.f3) ⟨(txM x).toArray⟩ := by
  refine indI (fun a b s l ih hb n hg => ?_)
  obtain ⟨m, rfl, hs, hl⟩ := goodM_mk hg
  rw [budI_mk] at hb
  have hll := budIL_len l
  show Ev (fun k => impl_Term_text.f k a b s l) _
  rw [txM]
  by_cases h1 : a = 1
  · rw [if_pos h1]
    have := shape_num hs (.inl h1)
    refine Ev.step (f := fun k => (strconv_Itoa.f b).bind fun t127 => (some t127)) (fun k => ?_) (ev_of ?_)
    · simp only [impl_Term_text.f]; rw [if_pos h1]
    · rw [strconv_Itoa_eq b (by omega) (by omega)]; rfl
  rw [if_neg h1]
  by_cases h2 : a = 2
  · rw [if_pos h2, ba_eta]
    refine Ev.step (f := fun k => some s) (fun k => ?_) (Ev.now _)
    simp only [impl_Term_text.f]; rw [if_neg h1, if_pos h2]
  rw [if_neg h2]
  by_cases h3 : a = 3
  · rw [if_pos h3]
    have := shape_num hs (.inr h3)
    have hz := itoa_le b (by omega) (by omega)
    refine Ev.step (f := fun k => (strconv_Itoa.f b).bind fun t128 => (if 1 + t128.size ≤ 9223372036854775807 then (if ((⟨#[60]⟩ : ByteArray) ++ t128).size + 1 ≤ 9223372036854775807 then (some (((⟨#[60]⟩ : ByteArray) ++ t128) ++ (⟨#[62]⟩ : ByteArray))) else (none)) else (none))) (fun k => ?_) (ev_of ?_)
    · simp only [impl_Term_text.f]; rw [if_neg h1, if_neg h2, if_pos h3]
    · rw [strconv_Itoa_eq b (by omega) (by omega)]
      simp only [Option.bind_some]
      rw [pid_eq _ (by rw [ba_size]; omega)]
  rw [if_neg h3]
  have hs2 := tx_sum l m hl (by omega)
  refine Ev.step (f := fun k => impl_Term_text.l0 k ([] : List ByteArray) l (l.length : Int) 0 a b s l) (fun k => ?_) ?_
  · simp only [impl_Term_text.f]; rw [if_neg h1, if_neg h2, if_neg h3]
  exact impl_text_loop a b s l (by omega) (fun y hy => ih y hy (by have := budI_mem l y hy; omega) m (goodML_mem l m hl y hy)) hs2 l.length 0 (by omega)
theorem impl_TermText_ev (x : S29) (hb : (budI x : Int) ≤ 4194304) : Ev (fun k => impl_TermText.f k x.f0 x.f1 x.f2 x.f3) (ttM x) := by
  unfold impl_TermText.f
  refine Ev.bind (impl_TermOk_ev x hb) ?_
  by_cases h : termOkM x = true
  · exact ev_pos h (ev_cast (ttM_yes h) (Ev.bind (impl_text_all x hb 8 (termOk_good h)) (Ev.now _)))
  · exact ev_cast (ttM_no h) (ev_neg h (Ev.now _))
theorem noText_eqC {s : ByteArray} (h : noText s = true) : s = ⟨#[]⟩ := by
  unfold noText at h
  rw [decide_eq_true_eq, Go.Lib.toList_data] at h
  apply ByteArray.ext
  exact Array.toList_inj.1 h
theorem len0_eqC {l : List S29} (h : ((l.length : Int) == 0) = true) : l = [] := by
  rw [beq_iff_eq] at h
  exact List.eq_nil_of_length_eq_zero (by omega)
theorem shape_casesC {a b : Int} {s : ByteArray} {l : List S29} (h : shapeM a b s l = true) :
    (a = 1 ∧ -1000000000000 ≤ b ∧ b ≤ 1000000000000 ∧ s = ⟨#[]⟩ ∧ l = []) ∨ (a = 2 ∧ b = 0 ∧ atomOkM s = true ∧ l = []) ∨ (a = 3 ∧ 0 ≤ b ∧ b ≤ 1000000 ∧ s = ⟨#[]⟩ ∧ l = []) ∨ ((a = 4 ∨ a = 5) ∧ b = 0 ∧ s = ⟨#[]⟩) := by
  unfold shapeM at h
  by_cases h1 : a = 1
  · rw [if_pos h1] at h
    simp only [Bool.and_eq_true, decide_eq_true_eq] at h
    exact .inl ⟨h1, h.1.1, h.1.2, noText_eqC h.2.1, len0_eqC h.2.2⟩
  rw [if_neg h1] at h
  by_cases h2 : a = 2
  · rw [if_pos h2] at h
    simp only [Bool.and_eq_true, decide_eq_true_eq] at h
    exact .inr (.inl ⟨h2, h.2.1, h.1, len0_eqC h.2.2⟩)
  rw [if_neg h2] at h
  by_cases h3 : a = 3
  · rw [if_pos h3] at h
    simp only [Bool.and_eq_true, decide_eq_true_eq] at h
    exact .inr (.inr (.inl ⟨h3, h.1.1, h.1.2, noText_eqC h.2.1, len0_eqC h.2.2⟩))
  rw [if_neg h3] at h
  by_cases h4 : a = 4
  · rw [if_pos h4] at h
    simp only [Bool.and_eq_true, decide_eq_true_eq] at h
    exact .inr (.inr (.inr ⟨.inl h4, h.1, noText_eqC h.2.1⟩))
  rw [if_neg h4] at h
  by_cases h5 : a = 5
  · rw [if_pos h5] at h
    simp only [Bool.and_eq_true, decide_eq_true_eq] at h
    exact .inr (.inr (.inr ⟨.inr h5, h.1, noText_eqC h.2.1⟩))
  rw [if_neg h5] at h
  cases h
def isDg (c : UInt8) : Bool := decide (48 ≤ c.toNat) && decide (c.toNat ≤ 57)
theorem dg_nat (u : Nat) (h : u < 10) : (UInt8.ofNat (48 + u)).toNat = 48 + u := by
  rw [UInt8.toNat_ofNat']
  exact Nat.mod_eq_of_lt (by omega)
theorem decDigits_dg (n : Nat) : ∀ u, u ≤ n → ∀ c ∈ Go.Lib.decDigits u, isDg c = true := by
  have one : ∀ u, u < 10 → isDg (UInt8.ofNat (48 + u)) = true := by
    intro u h
    unfold isDg
    rw [dg_nat u h]
    simp
    omega
  induction n with
  | zero =>
    intro u hu c hc
    obtain rfl : u = 0 := by omega
    rw [Go.Lib.decDigits, dif_pos (by omega)] at hc
    obtain rfl := List.mem_singleton.1 hc
    exact one 0 (by omega)
  | succ n ih =>
    intro u hu c hc
    by_cases h : u < 10
    · rw [Go.Lib.decDigits, dif_pos h] at hc
      obtain rfl := List.mem_singleton.1 hc
      exact one u h
    · rw [Go.Lib.decDigits, dif_neg h] at hc
      rcases List.mem_append.1 hc with hc | hc
      · exact ih (u / 10) (by omega) c hc
      · obtain rfl := List.mem_singleton.1 hc
        exact one (u % 10) (by omega)
def decVal (l : List UInt8) : Nat := l.foldl (fun a c => a * 10 + (c.toNat - 48)) 0
theorem decVal_dec (n : Nat) : ∀ u, u ≤ n → decVal (Go.Lib.decDigits u) = u := by
  have one : ∀ u, u < 10 → decVal (Go.Lib.decDigits u) = u := by
    intro u h
    rw [Go.Lib.decDigits, dif_pos h]
    unfold decVal
    rw [List.foldl_cons, List.foldl_nil, dg_nat u h]
    omega
  induction n with
  | zero => intro u hu; exact one u (by omega)
  | succ n ih =>
    intro u hu
    by_cases h : u < 10
    · exact one u h
    · have e := ih (u / 10) (by omega)
      rw [Go.Lib.decDigits, dif_neg h]
      unfold decVal at e ⊢
      rw [List.foldl_append, e, List.foldl_cons, List.foldl_nil, dg_nat (u % 10) (by omega)]
      omega
theorem decDigits_inj {u v : Nat} (h : Go.Lib.decDigits u = Go.Lib.decDigits v) : u = v := by
  rw [← decVal_dec u u (Nat.le_refl _), h, decVal_dec v v (Nat.le_refl _)]
theorem decDigits_ne (u : Nat) : ∃ c t, Go.Lib.decDigits u = c :: t := by
  rw [Go.Lib.decDigits]
  split
  · exact ⟨_, _, rfl⟩
  · cases Go.Lib.decDigits (u / 10) with
    | nil => exact ⟨_, _, rfl⟩
    | cons c t => exact ⟨_, _, rfl⟩
/-- A number's text: a figure first, or a '-' and figures. -/
theorem itoa_chars (n : Int) : ∀ c ∈ Go.Lib.itoa n, c = 45 ∨ isDg c = true := by
  intro c hc
  unfold Go.Lib.itoa at hc
  split at hc
  · rcases List.mem_cons.1 hc with rfl | hc
    · exact .inl rfl
    · exact .inr (decDigits_dg _ _ (Nat.le_refl _) c hc)
  · exact .inr (decDigits_dg _ _ (Nat.le_refl _) c hc)
theorem itoa_ne (n : Int) : ∃ c t, Go.Lib.itoa n = c :: t := by
  unfold Go.Lib.itoa
  split
  · exact ⟨_, _, rfl⟩
  · exact decDigits_ne _
theorem isDg_45 : isDg 45 = false := by decide
theorem itoa_inj {m n : Int} (h : Go.Lib.itoa m = Go.Lib.itoa n) : m = n := by
  have no : ∀ (u v : Nat), 45 :: Go.Lib.decDigits u ≠ Go.Lib.decDigits v := by
    intro u v e
    have := decDigits_dg v v (Nat.le_refl _) 45 (by rw [← e]; exact List.mem_cons_self)
    rw [isDg_45] at this
    cases this
  unfold Go.Lib.itoa at h
  split at h <;> split at h
  · have := decDigits_inj (List.cons.inj h).2; omega
  · exact absurd h (no _ _)
  · exact absurd h.symm (no _ _)
  · have := decDigits_inj h; omega
def isD (c : UInt8) : Bool := c == 44 || (c == 125 || c == 93)
theorem word_split (p : UInt8 → Bool) : ∀ (w1 w2 r1 r2 : List UInt8), (∀ c ∈ w1, p c = true) → (∀ c ∈ w2, p c = true) → (∀ c t, r1 = c :: t → p c = false) → (∀ c t, r2 = c :: t → p c = false) → w1 ++ r1 = w2 ++ r2 → w1 = w2 ∧ r1 = r2
  | [], [], _, _, _, _, _, _, e => ⟨rfl, e⟩
  | [], c :: t, r1, r2, _, h2, k1, _, e => by
    have := k1 c (t ++ r2) e
    rw [h2 c List.mem_cons_self] at this
    cases this
  | c :: t, [], r1, r2, h1, _, _, k2, e => by
    have := k2 c (t ++ r1) e.symm
    rw [h1 c List.mem_cons_self] at this
    cases this
  | c :: t, c2 :: t2, r1, r2, h1, h2, k1, k2, e => by
    obtain ⟨rfl, e2⟩ := List.cons.inj e
    obtain ⟨rfl, e3⟩ := word_split p t t2 r1 r2 (fun c hc => h1 c (List.mem_cons_of_mem _ hc)) (fun c hc => h2 c (List.mem_cons_of_mem _ hc)) k1 k2 e2
    exact ⟨rfl, e3⟩
def cls (c : UInt8) : Int := if c = 45 ∨ isDg c = true then 1 else if 97 ≤ c.toNat ∧ c.toNat ≤ 122 then 2 else if c = 60 then 3 else if c = 123 then 4 else if c = 91 then 5 else 0
theorem cls_D (c : UInt8) (h : isD c = true) : cls c = 0 := by
  unfold isD at h
  simp only [Bool.or_eq_true, beq_iff_eq] at h
  rcases h with rfl | rfl | rfl <;> decide
theorem bt_mem (s : ByteArray) (c : UInt8) (hc : c ∈ s.data.toList) : ∃ i : Nat, i < s.size ∧ bt s (i : Int) = c.toNat := by
  obtain ⟨i, hi, rfl⟩ := List.mem_iff_getElem.1 hc
  have hi2 : i < s.size := by rw [size_len2]; exact hi
  refine ⟨i, hi2, ?_⟩
  unfold bt
  rw [dif_pos (by simpa using hi2)]
  simp
  rfl
theorem atom_chars {s : ByteArray} (h : atomOkM s = true) : ∀ c ∈ s.data.toList, isD c = false := by
  intro c hc
  obtain ⟨i, hi, hb⟩ := bt_mem s c hc
  unfold atomOkM at h
  rw [Bool.and_eq_true] at h
  have h0 := h.1
  unfold atomFrom at h0
  rw [List.all_eq_true] at h0
  have h1 := h0 i (by rw [List.mem_range'_1]; omega)
  rw [hb] at h1
  unfold lowB digB at h1
  simp only [Bool.or_eq_true, Bool.and_eq_true, decide_eq_true_eq] at h1
  cases hd : isD c with
  | false => rfl
  | true =>
    exfalso
    unfold isD at hd
    simp only [Bool.or_eq_true, beq_iff_eq] at hd
    have hn : (c.toNat : Int) = 44 ∨ (c.toNat : Int) = 125 ∨ (c.toNat : Int) = 93 := by
      rcases hd with rfl | rfl | rfl
      · exact .inl rfl
      · exact .inr (.inl rfl)
      · exact .inr (.inr rfl)
    omega
theorem atom_head {s : ByteArray} (h : atomOkM s = true) : ∃ c t, s.data.toList = c :: t ∧ cls c = 2 := by
  unfold atomOkM at h
  simp only [Bool.and_eq_true, decide_eq_true_eq] at h
  obtain ⟨h0, h1, _⟩ := h
  have hl := size_len2 s
  cases hd : s.data.toList with
  | nil => rw [hd, List.length_nil] at hl; omega
  | cons c t =>
    refine ⟨c, t, rfl, ?_⟩
    unfold atomFrom at h0
    rw [List.all_eq_true] at h0
    have h2 := h0 0 (by rw [List.mem_range'_1]; omega)
    have hb : bt s ((0 : Nat) : Int) = c.toNat := by
      unfold bt
      rw [dif_pos (show ((0 : Nat) : Int).toNat < s.size by have : ((0 : Nat) : Int).toNat = 0 := rfl; omega)]
      have e : s.data.toList[0]'(by rw [hd]; simp) = c := by simp [hd]
      simp only [Int.toNat_natCast]
      rw [← e]
      rfl
    rw [hb] at h2
    unfold lowB at h2
    simp only [Bool.or_eq_true, Bool.and_eq_true, decide_eq_true_eq, decide_true, Bool.not_true, Bool.false_eq_true, false_and, or_false] at h2
    have h3 : ¬ (c = 45 ∨ isDg c = true) := by
      rintro (rfl | h)
      · exact absurd h2.1 (by decide)
      · unfold isDg at h
        simp only [Bool.and_eq_true, decide_eq_true_eq] at h
        omega
    unfold cls
    rw [if_neg h3, if_pos (by omega)]
theorem itoa_head (n : Int) : ∃ c t, Go.Lib.itoa n = c :: t ∧ cls c = 1 := by
  obtain ⟨c, t, e⟩ := itoa_ne n
  refine ⟨c, t, e, ?_⟩
  unfold cls
  rw [if_pos (itoa_chars n c (by rw [e]; exact List.mem_cons_self))]
theorem dg_isD {c : UInt8} (h : c = 45 ∨ isDg c = true) : isD c = false := by
  rcases h with rfl | h
  · rfl
  · unfold isDg at h
    simp only [Bool.and_eq_true, decide_eq_true_eq] at h
    cases hd : isD c with
    | false => rfl
    | true =>
      exfalso
      unfold isD at hd
      simp only [Bool.or_eq_true, beq_iff_eq] at hd
      rcases hd with rfl | rfl | rfl
      · exact absurd h.1 (by decide)
      · exact absurd h.2 (by decide)
      · exact absurd h.2 (by decide)
theorem dg_62 {c : UInt8} (h : c = 45 ∨ isDg c = true) : (c != 62) = true := by
  rcases h with rfl | h
  · rfl
  · unfold isDg at h
    simp only [Bool.and_eq_true, decide_eq_true_eq] at h
    rw [bne_iff_ne]
    rintro rfl
    exact absurd h.2 (by decide)
theorem tx_head : ∀ (x : S29) (n : Nat), goodM x n = true → ∃ c t, txM x = c :: t ∧ cls c = x.f0 ∧ 1 ≤ x.f0 := by
  rintro ⟨a, b, s, l⟩ n hg
  obtain ⟨m, rfl, hs, hl⟩ := goodM_mk hg
  rw [txM]
  show ∃ c t, _ = c :: t ∧ cls c = a ∧ 1 ≤ a
  rcases shape_casesC hs with h | h | h | h
  · rw [if_pos h.1]
    obtain ⟨c, t, e, hc⟩ := itoa_head b
    exact ⟨c, t, e, by rw [hc, h.1], by omega⟩
  · rw [if_neg (by omega), if_pos h.1]
    obtain ⟨c, t, e, hc⟩ := atom_head h.2.2.1
    exact ⟨c, t, e, by rw [hc, h.1], by omega⟩
  · rw [if_neg (by omega), if_neg (by omega), if_pos h.1]
    exact ⟨60, _, rfl, by rw [h.1]; decide, by omega⟩
  · rcases h.1 with ha | ha
    · rw [if_neg (by omega), if_neg (by omega), if_neg (by omega), if_pos ha]
      exact ⟨123, _, rfl, by rw [ha]; decide, by omega⟩
    · rw [if_neg (by omega), if_neg (by omega), if_neg (by omega), if_neg (by omega)]
      exact ⟨91, _, rfl, by rw [ha]; decide, by omega⟩
def EndD (r : List UInt8) : Prop := ∀ c t, r = c :: t → isD c = true
def TxP (x : S29) : Prop := ∀ n, goodM x n = true → ∀ (y : S29) (m : Nat), goodM y m = true → ∀ r1 r2, EndD r1 → EndD r2 → txM x ++ r1 = txM y ++ r2 → x = y ∧ r1 = r2
def tlT (l : List S29) : List UInt8 := Go.Lib.joinTail [44] (txL l)
theorem tlT_nil : tlT [] = [] := rfl
theorem tlT_cons (x : S29) (r : List S29) : tlT (x :: r) = 44 :: (txM x ++ tlT r) := by
  unfold tlT Go.Lib.joinTail
  rw [txL]
  rfl
theorem tlT_end (l : List S29) (c : UInt8) (r : List UInt8) (hc : isD c = true) : EndD (tlT l ++ c :: r) := by
  cases l with
  | nil =>
    intro c2 t e
    obtain ⟨rfl, _⟩ := List.cons.inj e
    exact hc
  | cons x l =>
    intro c2 t e
    rw [tlT_cons] at e
    obtain ⟨rfl, _⟩ := List.cons.inj e
    rfl
theorem tail_inj (c : UInt8) (hc : isD c = true) (h44 : c ≠ 44) : ∀ (l : List S29) (m : Nat), (∀ y ∈ l, TxP y) → goodML l m = true → ∀ (l2 : List S29) (m2 : Nat), goodML l2 m2 = true → ∀ r1 r2, tlT l ++ c :: r1 = tlT l2 ++ c :: r2 → l = l2 ∧ r1 = r2
  | [], _, _, _, [], _, _, r1, r2, e => ⟨rfl, (List.cons.inj e).2⟩
  | [], _, _, _, y :: r, _, _, r1, r2, e => by
    rw [tlT_cons] at e
    exact absurd (List.cons.inj e).1 h44
  | x :: r, _, _, _, [], _, _, r1, r2, e => by
    rw [tlT_cons] at e
    exact absurd (List.cons.inj e).1.symm h44
  | x :: r, m, hP, hg, y :: q, m2, hg2, r1, r2, e => by
    rw [tlT_cons, tlT_cons, List.cons_append, List.cons_append, List.append_assoc, List.append_assoc] at e
    have e1 := (List.cons.inj e).2
    obtain ⟨rfl, e2⟩ := hP x List.mem_cons_self m (goodML_mem _ m hg x List.mem_cons_self) y m2 (goodML_mem _ m2 hg2 y List.mem_cons_self) _ _ (tlT_end r c r1 hc) (tlT_end q c r2 hc) e1
    rw [goodML, Bool.and_eq_true] at hg hg2
    obtain ⟨rfl, e3⟩ := tail_inj c hc h44 r m (fun y hy => hP y (List.mem_cons_of_mem _ hy)) hg.2 q m2 hg2.2 r1 r2 e2
    exact ⟨rfl, e3⟩
theorem join_inj (c : UInt8) (hc : isD c = true) (h44 : c ≠ 44) (l : List S29) (m : Nat) (hP : ∀ y ∈ l, TxP y) (hg : goodML l m = true) (l2 : List S29) (m2 : Nat) (hg2 : goodML l2 m2 = true) (r1 r2 : List UInt8) (e : Go.Lib.join (txL l) [44] ++ c :: r1 = Go.Lib.join (txL l2) [44] ++ c :: r2) : l = l2 ∧ r1 = r2 := by
  have hd : ∀ (x : S29) (n : Nat) (t r : List UInt8), goodM x n = true → txM x ++ t ≠ c :: r := by
    intro x n t r h e
    obtain ⟨c2, t2, e2, h2, h3⟩ := tx_head x n h
    rw [e2] at e
    have e3 := (List.cons.inj e).1
    rw [e3, cls_D c hc] at h2
    omega
  cases l with
  | nil =>
    cases l2 with
    | nil => exact ⟨rfl, (List.cons.inj e).2⟩
    | cons y q =>
      rw [txL, txL, Go.Lib.join_cons, List.append_assoc] at e
      exact absurd e.symm (hd y m2 _ _ (goodML_mem _ m2 hg2 y List.mem_cons_self))
  | cons x r =>
    cases l2 with
    | nil =>
      rw [txL, txL, Go.Lib.join_cons, List.append_assoc] at e
      exact absurd e (hd x m _ _ (goodML_mem _ m hg x List.mem_cons_self))
    | cons y q =>
      have e1 : tlT (x :: r) ++ c :: r1 = tlT (y :: q) ++ c :: r2 := by
        rw [tlT_cons, tlT_cons]
        rw [txL, txL, Go.Lib.join_cons, Go.Lib.join_cons] at e
        exact congrArg (44 :: ·) e
      exact tail_inj c hc h44 _ m hP hg _ m2 hg2 r1 r2 e1
theorem txM_1 (b : Int) (s : ByteArray) (l : List S29) : txM ⟨1, b, s, l⟩ = Go.Lib.itoa b := by rw [txM, if_pos rfl]
theorem txM_2 (b : Int) (s : ByteArray) (l : List S29) : txM ⟨2, b, s, l⟩ = s.data.toList := by rw [txM, if_neg (by decide), if_pos rfl]
theorem txM_3 (b : Int) (s : ByteArray) (l : List S29) : txM ⟨3, b, s, l⟩ = 60 :: (Go.Lib.itoa b ++ [62]) := by rw [txM, if_neg (by decide), if_neg (by decide), if_pos rfl]
theorem txM_4 (b : Int) (s : ByteArray) (l : List S29) : txM ⟨4, b, s, l⟩ = 123 :: (Go.Lib.join (txL l) [44] ++ [125]) := by rw [txM]; rfl
theorem txM_5 (b : Int) (s : ByteArray) (l : List S29) : txM ⟨5, b, s, l⟩ = 91 :: (Go.Lib.join (txL l) [44] ++ [93]) := by rw [txM]; rfl
theorem tx_all : ∀ x, TxP x := by
  refine indI (fun a b s l ih n hg y m hgy r1 r2 k1 k2 e => ?_)
  obtain ⟨a2, b2, s2, l2⟩ := y
  obtain ⟨c1, t1, e1, q1, _⟩ := tx_head _ n hg
  obtain ⟨c2, t2, e2, q2, _⟩ := tx_head _ m hgy
  have ha : a = a2 := by
    rw [e1, e2] at e
    have := (List.cons.inj e).1
    subst this
    exact q1.symm.trans q2
  subst ha
  clear e1 e2 q1 q2 c1 c2 t1 t2
  obtain ⟨n, rfl, hs, hl⟩ := goodM_mk hg
  obtain ⟨m, rfl, hs2, hl2⟩ := goodM_mk hgy
  have d1 : ∀ c t, r1 = c :: t → (!isD c) = false := fun c t h => by rw [k1 c t h]; rfl
  have d2 : ∀ c t, r2 = c :: t → (!isD c) = false := fun c t h => by rw [k2 c t h]; rfl
  rcases shape_casesC hs with h | h | h | h
  · rcases shape_casesC hs2 with g | g | g | g
    · obtain ⟨rfl, _, _, rfl, rfl⟩ := h
      obtain ⟨_, _, _, rfl, rfl⟩ := g
      rw [txM_1, txM_1] at e
      obtain ⟨e3, e4⟩ := word_split (fun c => !isD c) _ _ r1 r2 (fun c hc => by rw [dg_isD (itoa_chars b c hc)]; rfl) (fun c hc => by rw [dg_isD (itoa_chars b2 c hc)]; rfl) d1 d2 e
      obtain rfl := itoa_inj e3
      exact ⟨rfl, e4⟩
    all_goals omega
  · rcases shape_casesC hs2 with g | g | g | g
    · omega
    · obtain ⟨rfl, rfl, ho, rfl⟩ := h
      obtain ⟨_, rfl, ho2, rfl⟩ := g
      rw [txM_2, txM_2] at e
      obtain ⟨e3, e4⟩ := word_split (fun c => !isD c) _ _ r1 r2 (fun c hc => by rw [atom_chars ho c hc]; rfl) (fun c hc => by rw [atom_chars ho2 c hc]; rfl) d1 d2 e
      have e5 : s = s2 := ByteArray.ext (Array.toList_inj.1 e3)
      subst e5
      exact ⟨rfl, e4⟩
    all_goals omega
  · rcases shape_casesC hs2 with g | g | g | g
    · omega
    · omega
    · obtain ⟨rfl, _, _, rfl, rfl⟩ := h
      obtain ⟨_, _, _, rfl, rfl⟩ := g
      rw [txM_3, txM_3, List.cons_append, List.cons_append, List.append_assoc, List.append_assoc] at e
      have e0 := (List.cons.inj e).2
      obtain ⟨e3, e4⟩ := word_split (fun c => c != 62) (Go.Lib.itoa b) (Go.Lib.itoa b2) ([62] ++ r1) ([62] ++ r2) (fun c hc => dg_62 (itoa_chars b c hc)) (fun c hc => dg_62 (itoa_chars b2 c hc)) (fun c t h => by obtain ⟨rfl, _⟩ := List.cons.inj h; rfl) (fun c t h => by obtain ⟨rfl, _⟩ := List.cons.inj h; rfl) e0
      obtain rfl := itoa_inj e3
      exact ⟨rfl, (List.cons.inj e4).2⟩
    · omega
  · rcases shape_casesC hs2 with g | g | g | g
    · omega
    · omega
    · omega
    · obtain ⟨ha, rfl, rfl⟩ := h
      obtain ⟨_, rfl, rfl⟩ := g
      rcases ha with rfl | rfl
      · rw [txM_4, txM_4, List.cons_append, List.cons_append, List.append_assoc, List.append_assoc] at e
        obtain ⟨rfl, e3⟩ := join_inj 125 rfl (by decide) l n ih hl l2 m hl2 r1 r2 (List.cons.inj e).2
        exact ⟨rfl, e3⟩
      · rw [txM_5, txM_5, List.cons_append, List.cons_append, List.append_assoc, List.append_assoc] at e
        obtain ⟨rfl, e3⟩ := join_inj 93 rfl (by decide) l n ih hl l2 m hl2 r1 r2 (List.cons.inj e).2
        exact ⟨rfl, e3⟩
theorem tx_inj {x y : S29} {n m : Nat} (hx : goodM x n = true) (hy : goodM y m = true) (e : txM x = txM y) : x = y :=
  (tx_all x n hx y m hy [] [] (fun c t h => by cases h) (fun c t h => by cases h) (by rw [e])).1
mutual
theorem sameM_reflT : ∀ x, sameM x x = true
  | ⟨a, b, s, l⟩ => by rw [sameM, sameML_reflT l]; simp
theorem sameML_reflT : ∀ l, sameML l l = true
  | [] => by rw [sameML]; rfl
  | x :: r => by rw [sameML, sameM_reflT x, sameML_reflT r]; rfl
end
mutual
theorem sameM_eq : ∀ x y, sameM x y = true → x = y
  | ⟨a, b, s, l⟩, ⟨a2, b2, s2, l2⟩, h => by
    rw [sameM] at h
    simp only [Bool.and_eq_true, decide_eq_true_eq] at h
    obtain ⟨rfl, rfl, h3, h4⟩ := h
    rw [Go.Lib.toList_data, Go.Lib.toList_data] at h3
    have e5 : s = s2 := ByteArray.ext (Array.toList_inj.1 h3)
    subst e5
    obtain rfl := sameML_eq l l2 h4
    rfl
theorem sameML_eq : ∀ l m, sameML l m = true → l = m
  | [], m, h => by rw [sameML] at h; cases m <;> simp_all
  | x :: r, [], h => by rw [sameML] at h; cases h
  | x :: r, y :: r2, h => by
    rw [sameML, Bool.and_eq_true] at h
    rw [sameM_eq x y h.1, sameML_eq r r2 h.2]
end
theorem ttM_same {x y : S29} (hx : termOkM x = true) (hy : termOkM y = true) : ((ttM x).toList == (ttM y).toList) = sameM x y := by
  rw [← ttM_yes hx, ← ttM_yes hy, Go.Lib.toList_data, Go.Lib.toList_data]
  show (txM x == txM y) = _
  cases hs : sameM x y with
  | true => rw [sameM_eq x y hs]; simp
  | false =>
    rw [beq_eq_false_iff_ne]
    intro e
    rw [tx_inj (termOk_good hx) (termOk_good hy) e, sameM_reflT] at hs
    cases hs
theorem ttM_ne {x : S29} (hx : termOkM x = true) : ((ttM x).toList != ([] : List UInt8)) = true := by
  rw [← ttM_yes hx, Go.Lib.toList_data]
  obtain ⟨c, t, e, _⟩ := tx_head x 8 (termOk_good hx)
  show (txM x != []) = true
  rw [e]
  rfl
theorem ttM_nil {x : S29} (hx : ¬ termOkM x = true) : ((ttM x).toList == ([] : List UInt8)) = true := by
  rw [← ttM_no hx, Go.Lib.toList_data]
  rfl
theorem FnTermTexts : laws_FnTermTexts.Pure := by
  intro l0 hl hl2 hw
  refine Ev.rounds (g := fun k => laws_FnTermTexts.f k l0) ?_
  unfold laws_FnTermTexts.f
  rw [laws_big_eq]
  by_cases hb : (l0.length : Int) > 1048576
  · refine Ev.bind (Ev.now _) (ev_pos (decide_eq_true hb) (Ev.now _))
  · refine Ev.bind (Ev.now _) (ev_neg (by simpa using hb) ?_)
    obtain ⟨x, y, ed, hx, hy⟩ := spec_DrawSameTerm_ev l0 (by omega)
    refine Ev.bind ed (Ev.bind (impl_Same_all x (by omega) y) (Ev.bind (spec_Same_all x (by omega) y) (ev_neg (by simp) (Ev.bind (impl_Same_all x (by omega) x) ?_))))
    rw [sameM_reflT]
    refine Ev.step (f := fun k => (spec_TermOk.f k x.f0 x.f1 x.f2 x.f3).bind fun t352 => (if t352 = true then ((spec_TermOk.f k y.f0 y.f1 y.f2 y.f3).bind fun t353 => (laws_FnTermTexts.j1 k (sameM x y) (!t353) x.f0 x.f1 x.f2 x.f3 y.f0 y.f1 y.f2 y.f3)) else (laws_FnTermTexts.j1 k (sameM x y) true x.f0 x.f1 x.f2 x.f3 y.f0 y.f1 y.f2 y.f3))) (fun k => by simp only [laws_FnTermTexts.j0]; rw [if_neg (by decide)]) ?_
    have ex := spec_TermOk_ev x (by omega)
    have ey := spec_TermOk_ev y (by omega)
    have tx := impl_TermText_ev x (by omega)
    have ty := impl_TermText_ev y (by omega)
    have no : Ev (fun k => laws_FnTermTexts.j1 k (sameM x y) true x.f0 x.f1 x.f2 x.f3 y.f0 y.f1 y.f2 y.f3) true := by
      refine Ev.step (f := fun k => (spec_TermOk.f k x.f0 x.f1 x.f2 x.f3).bind fun t354 => (if t354 = true then (some true) else ((impl_TermText.f k x.f0 x.f1 x.f2 x.f3).bind fun t355 => (some (t355.toList == ([] : List UInt8)))))) (fun k => by simp only [laws_FnTermTexts.j1]; rw [if_pos trivial]) (Ev.bind ex ?_)
      by_cases hok : termOkM x = true
      · exact ev_pos hok (Ev.now _)
      · exact ev_neg hok (Ev.bind tx (ev_cast (ttM_nil hok) (Ev.now _)))
    refine Ev.bind ex ?_
    by_cases hok : termOkM x = true
    · refine ev_pos hok (Ev.bind ey ?_)
      by_cases hok2 : termOkM y = true
      · rw [hok2]
        refine Ev.step (f := fun k => (impl_TermText.f k x.f0 x.f1 x.f2 x.f3).bind fun t356 => ((impl_TermText.f k y.f0 y.f1 y.f2 y.f3).bind fun t357 => (if ((t356.toList == t357.toList) == (sameM x y)) = true then ((impl_TermText.f k x.f0 x.f1 x.f2 x.f3).bind fun t358 => (some (t358.toList != ([] : List UInt8)))) else (some false)))) (fun k => by simp only [laws_FnTermTexts.j1]; rw [if_neg (by decide)]) ?_
        refine Ev.bind tx (Ev.bind ty (ev_pos ?_ (Ev.bind tx (ev_cast (ttM_ne hok) (Ev.now _)))))
        rw [ttM_same hok hok2]
        simp
      · rw [Bool.eq_false_iff.mpr hok2]
        exact no
    · exact ev_neg hok no

end Go.Proofs.YtpbhbpffpkedcaaDoor.Pure
