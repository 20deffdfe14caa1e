/- What the law FnExactPutText of this seat says holds for every input that its row speaks of; no further condition. -/
import Derived.Test.YthfiopjabfaejaaQFnExactPutTextx2
set_option linter.unusedVariables false
set_option linter.unusedSimpArgs false
namespace Go.Proofs.Ythfiopjabfaejaa.Pure
open Go.RowKit Go.Proofs.Ythfiopjabfaejaa.QFnExactPutText Go.Proofs.YthfiopjabfaejaaW.PrintWords Go.Proofs.YthfiopjabfaejaaW.PrintLast Go.Proofs.YthfiopjabfaejaaW.PrintMore

theorem ev_pos {α : Type} {c : Prop} [Decidable c] {A B : Nat → Option α} {r : α} (h : c) (e : Ev A r) : Ev (fun k => if c then A k else B k) r := by
  obtain ⟨K, hK⟩ := e
  exact ⟨K, fun k hk => by simp only [if_pos h]; exact hK k hk⟩
theorem ev_neg {α : Type} {c : Prop} [Decidable c] {A B : Nat → Option α} {r : α} (h : ¬ c) (e : Ev B r) : Ev (fun k => if c then A k else B k) r := by
  obtain ⟨K, hK⟩ := e
  exact ⟨K, fun k hk => by simp only [if_neg h]; exact hK k hk⟩
theorem ev_of {α : Type} {o : Option α} {r : α} (h : o = some r) : Ev (fun _ => o) r := ⟨0, fun _ _ => h⟩
theorem ev_cast {α : Type} {g : Nat → Option α} {r r' : α} (h : r = r') (e : Ev g r) : Ev g r' := h ▸ e
theorem ev_uniq {α : Type} {g : Nat → Option α} {r r' : α} (h : Ev g r) (h' : Ev g r') : r = r' := by
  obtain ⟨K, hK⟩ := h
  obtain ⟨K', hK'⟩ := h'
  have a := hK (max K K') (Nat.le_max_left _ _)
  have b := hK' (max K K') (Nat.le_max_right _ _)
  rw [a] at b
  exact Option.some.inj b
theorem w64 (n : Int) (h0 : -9223372036854775808 ≤ n) (h1 : n ≤ 9223372036854775807) : wrap64 n = n := by unfold wrap64; omega
theorem dec_and (p q : Prop) [Decidable p] [Decidable q] : decide (p ∧ q) = (decide p && decide q) := by
  by_cases hp : p <;> by_cases hq : q <;> simp [hp, hq]
theorem wf_u8 {x : Int} (h : (Lit.int .u8 x).wf = true) : 0 ≤ x ∧ x < 256 := by
  simp [Lit.wf, IntKind.min, IntKind.max, IntKind.bits, IntKind.signed] at h
  omega
theorem wf_i64 {x : Int} (h : (Lit.int .i64 x).wf = true) : -9223372036854775808 ≤ x ∧ x ≤ 9223372036854775807 := by
  simp [Lit.wf, IntKind.min, IntKind.max, IntKind.bits, IntKind.signed] at h
  omega
def BytesB (l : List Int) : Prop := ∀ x ∈ l, 0 ≤ x ∧ x < 256
theorem BytesB.at_ {l : List Int} (h : BytesB l) (i : Int) : 0 ≤ rd l i ∧ rd l i < 256 := by
  unfold rd
  rw [List.getD_eq_getElem?_getD]
  by_cases hi : i.toNat < l.length
  · rw [List.getElem?_eq_getElem hi]; exact h _ (List.getElem_mem hi)
  · rw [List.getElem?_eq_none (by omega)]; decide
theorem drop_rd (l : List Int) (p : Nat) (h : p < l.length) : l.drop p = rd l p :: l.drop (p + 1) := by
  rw [List.drop_eq_getElem_cons h]
  unfold rd
  simp [List.getElem?_eq_getElem h]
theorem hk63 (n : Int) (h0 : 0 ≤ n) (h1 : n < 2 ^ 63) : IntKind.i64.wrap n = n := by
  rw [IntKind.wrap_i64]; omega
theorem or_comm64 (a b : Int) : Go.bits .or .i64 a b = Go.bits .or .i64 b a := by
  unfold Go.bits
  simp only [BitVec.or_comm]
theorem and127 (c : Int) (h0 : 0 ≤ c) (h1 : c < 256) : Go.bits .and .i64 c 127 = c % 128 := by
  have := bits_mask .i64 63 (by decide) hk63 7 (by decide) c h0 (by omega)
  simpa using this
theorem wrapU7 (i : Nat) (hi : i < 6) : IntKind.u64.wrap (wrap64 (7 * (i : Int))) = 7 * (i : Int) := by
  rw [w64 _ (by omega) (by omega)]
  simp [IntKind.wrap, IntKind.bits, IntKind.signed]
  omega
theorem p7 (i : Nat) (hi : i < 6) : (1 : Int) ≤ 2 ^ (7 * i) ∧ (2 : Int) ^ (7 * i) ≤ 34359738368 ∧ (2 : Int) ^ (7 * (i + 1)) = 128 * 2 ^ (7 * i) := by
  have : i = 0 ∨ i = 1 ∨ i = 2 ∨ i = 3 ∨ i = 4 ∨ i = 5 := by omega
  rcases this with rfl | rfl | rfl | rfl | rfl | rfl <;> decide
theorem grp (x c : Int) (i : Nat) (hi : i < 6) (hx0 : 0 ≤ x) (hx : x < 2 ^ (7 * i)) (hc0 : 0 ≤ c) (hc : c < 256) :
    Go.bits .or .i64 x (shl .i64 (Go.bits .and .i64 c 127) (IntKind.u64.wrap (wrap64 (7 * (i : Int))))) = x + (c % 128) * 2 ^ (7 * i) := by
  obtain ⟨hp1, hp2, _⟩ := p7 i hi
  rw [and127 c hc0 hc, wrapU7 i hi]
  unfold shl
  have hm : min (7 * (i : Int)).toNat (IntKind.i64.bits) = 7 * i := by show min _ 64 = _; omega
  have hb : 0 ≤ c % 128 ∧ c % 128 ≤ 127 := by omega
  have hq0 : 0 ≤ c % 128 * 2 ^ (7 * i) := Int.mul_nonneg hb.1 (by omega)
  have hq1 : c % 128 * 2 ^ (7 * i) ≤ 127 * 34359738368 := Int.mul_le_mul hb.2 hp2 (by omega) (by decide)
  rw [hm, hk63 _ hq0 (by omega), or_comm64]
  rw [bits_join .i64 63 (by decide) hk63 (7 * i) _ x hq0 (Int.mul_emod_left _ _) (by omega) hx0 hx (by omega)]
  omega
/-- What stands at a place: groups of seven bits; the number, and how many bytes. -/
def numM : Nat → Nat → Int → List Int → Option (Int × Nat)
  | 0, _, _, _ => none
  | _ + 1, _, _, [] => none
  | n + 1, i, x, c :: r => if c > 127 then numM n (i + 1) (x + (c % 128) * 2 ^ (7 * i)) r else if c = 0 ∧ 0 < i then none else some (x + (c % 128) * 2 ^ (7 * i), i + 1)
def zag (m : Int) : Int := if m % 2 = 1 then -(m / 2) - 1 else m / 2
def numFin (a : Int) : Option (Int × Nat) → Int × Int × Bool
  | none => (0, 0, false)
  | some (m, c) => if -1000000000000 ≤ zag m ∧ zag m ≤ 1000000000000 then (zag m, a + c, true) else (0, 0, false)
def getNumM (l : List Int) (a : Int) : Int × Int × Bool := if 0 ≤ a ∧ a < l.length then numFin a (numM 6 0 0 (l.drop a.toNat)) else (0, 0, false)
def grp7 : Nat → Int → List Int
  | 0, x => [x]
  | n + 1, x => if x > 127 then (x % 128 + 128) :: grp7 n (x / 128) else [x]
def clampM (n : Int) : Int := if n < -1000000000000 then -1000000000000 else if n > 1000000000000 then 1000000000000 else n
def zigM (c : Int) : Int := if c < 0 then -2 * c - 1 else 2 * c
def putNumM (n : Int) : List Int := grp7 5 (zigM (clampM n))
theorem grp7_len (n : Nat) : ∀ x, (grp7 n x).length ≤ n + 1 := by
  induction n with
  | zero => intro x; simp [grp7]
  | succ n ih =>
    intro x
    unfold grp7
    split
    · have := ih (x / 128); simp only [List.length_cons]; omega
    · simp
theorem grp7_bytes (n : Nat) : ∀ x, 0 ≤ x → x < 2 ^ (7 * (n + 1)) → BytesB (grp7 n x) := by
  induction n with
  | zero =>
    intro x h0 h1
    intro y hy
    simp [grp7] at hy
    subst hy
    have : (2 : Int) ^ (7 * (0 + 1)) = 128 := by decide
    omega
  | succ n ih =>
    intro x h0 h1
    have hp : (2 : Int) ^ (7 * (n + 1 + 1)) = 2 ^ (7 * (n + 1)) * 128 := by
      rw [show 7 * (n + 1 + 1) = 7 * (n + 1) + 7 from by omega, Int.pow_add]
      rfl
    unfold grp7
    split
    · rename_i h
      intro y hy
      rcases List.mem_cons.1 hy with rfl | hy
      · omega
      · exact ih (x / 128) (by omega) (by rw [hp] at h1; omega) y hy
    · intro y hy
      simp at hy
      subst hy
      omega
theorem zig_range (n : Int) : 0 ≤ zigM (clampM n) ∧ zigM (clampM n) ≤ 2000000000000 := by
  unfold zigM clampM
  split <;> split <;> (try split) <;> omega
theorem putNumM_len (n : Int) : (putNumM n).length ≤ 6 := grp7_len 5 _
theorem putNumM_bytes (n : Int) : BytesB (putNumM n) := by
  have := zig_range n
  exact grp7_bytes 5 _ this.1 (by have h : (2 : Int) ^ (7 * (5 + 1)) = 4398046511104 := by decide
                                  omega)
theorem and127_64 (x : Int) (h0 : 0 ≤ x) (h1 : x < 9223372036854775808) : Go.bits .and .i64 x 127 = x % 128 := by
  have := bits_mask .i64 63 (by decide) hk63 7 (by decide) x h0 (by omega)
  simpa using this
theorem or128 (y : Int) (h0 : 0 ≤ y) (h1 : y < 128) : Go.bits .or .i64 128 y = 128 + y := by
  exact bits_join .i64 63 (by decide) hk63 7 128 y (by decide) (by decide) (by decide) h0 (by omega) (by omega)
def putTextM (s : ByteArray) : List Int := putNumM s.size ++ bytesOf s
theorem putTextM_len (s : ByteArray) : (putTextM s).length ≤ 6 + s.size := by
  unfold putTextM
  have := putNumM_len s.size
  rw [List.length_append, bytesOf_length]; omega
theorem spec_PutNum_l0 (n : Nat) : ∀ (l : List Int) (x : Int), (l.length : Int) + n ≤ 4194304 → 0 ≤ x → x < 2 ^ (7 * (n + 1)) → n ≤ 5 → Ev (fun k => spec_PutNum.l0 k l x) (l ++ grp7 n x) := by
  induction n with
  | zero =>
    intro l x hl h0 h1 _
    have h2 : (2 : Int) ^ (7 * (0 + 1)) = 128 := by decide
    refine Ev.step (f := fun _ => some (l ++ [x])) (fun k => ?_) (Ev.now _)
    simp only [spec_PutNum.l0]
    rw [if_neg (by omega), if_pos (by omega), show x % 256 = x from by omega]
  | succ n ih =>
    intro l x hl h0 h1 hn
    have hp : (2 : Int) ^ (7 * (n + 1 + 1)) = 2 ^ (7 * (n + 1)) * 128 := by
      rw [show 7 * (n + 1 + 1) = 7 * (n + 1) + 7 from by omega, Int.pow_add]
      rfl
    have hq : (2 : Int) ^ (7 * (n + 1 + 1)) ≤ 4398046511104 := by
      have : n = 0 ∨ n = 1 ∨ n = 2 ∨ n = 3 ∨ n = 4 := by omega
      rcases this with rfl | rfl | rfl | rfl | rfl <;> decide
    by_cases h : x > 127
    · have := ih (l ++ [x % 128 + 128]) (x / 128) (by simp; omega) (by omega) (by rw [hp] at h1; omega) (by omega)
      refine Ev.step (fun k => ?_) (ev_cast ?_ this)
      · simp only [spec_PutNum.l0]
        rw [if_pos h, if_pos (by omega), and127_64 x h0 (by omega), or_comm64, or128 _ (by omega) (by omega), show (128 + x % 128) % 256 = x % 128 + 128 from by omega]
      · simp [grp7, h]
    · refine Ev.step (f := fun _ => some (l ++ [x])) (fun k => ?_) (ev_cast ?_ (Ev.now _))
      · simp only [spec_PutNum.l0]
        rw [if_neg h, if_pos (by omega), show x % 256 = x from by omega]
      · simp [grp7, h]
theorem spec_PutNum_ev (l : List Int) (hl : (l.length : Int) ≤ 4194200) (n : Int) : Ev (fun k => spec_PutNum.f k l n) (l ++ putNumM n) := by
  have hz := zig_range n
  have h5 : (2 : Int) ^ (7 * (5 + 1)) = 4398046511104 := by decide
  have fin : ∀ c : Int, -1000000000000 ≤ c → c ≤ 1000000000000 → zigM c = zigM (clampM n) → Ev (fun k => spec_PutNum.j1 k c l) (l ++ putNumM n) := by
    intro c h0 h1 hc
    have e := spec_PutNum_l0 5 l (zigM (clampM n)) (by omega) hz.1 (by omega) (by omega)
    refine Ev.step (f := fun k => spec_PutNum.j2 k l (zigM (clampM n))) (fun k => ?_) (Ev.step (fun k => ?_) e)
    · simp only [spec_PutNum.j1]
      rw [← hc]
      unfold zigM
      by_cases hn : c < 0
      · rw [if_pos hn, if_pos hn, w64 ((-2) * c) (by omega) (by omega), w64 _ (by omega) (by omega)]
      · rw [if_neg hn, if_neg hn, w64 _ (by omega) (by omega)]
    · simp only [spec_PutNum.j2]
  unfold spec_PutNum.f
  refine Ev.bind (Ev.now _) (ev_pos (by simp; omega) (Ev.bind (Ev.now _) ?_))
  rw [List.nil_append]
  by_cases h1 : n > 1000000000000
  · refine ev_pos h1 (Ev.step (fun k => ?_) (fin 1000000000000 (by omega) (by omega) (by unfold clampM; rw [if_neg (by omega), if_pos h1])))
    simp only [spec_PutNum.j0]; rw [if_neg (by omega)]
  · refine ev_neg h1 ?_
    by_cases h2 : n < -1000000000000
    · refine Ev.step (fun k => ?_) (fin (-1000000000000) (by omega) (by omega) (by unfold clampM; rw [if_pos h2]))
      simp only [spec_PutNum.j0]; rw [if_pos h2]
    · refine Ev.step (fun k => ?_) (fin n (by omega) (by omega) (by unfold clampM; rw [if_neg h2, if_neg h1]))
      simp only [spec_PutNum.j0]; rw [if_neg h2]
theorem spec_PutText_ev (l : List Int) (s : ByteArray) (hl : (l.length : Int) ≤ 1048576) (hs : (s.size : Int) ≤ 1048576) : Ev (fun k => spec_PutText.f k l s) (l ++ putTextM s) := by
  unfold spec_PutText.f
  have hp := putNumM_len s.size
  refine Ev.bind (spec_PutNum_ev l (by omega) _) (ev_pos (by rw [List.length_append]; omega) (ev_cast ?_ (Ev.now _)))
  unfold putTextM
  rw [List.append_assoc]
theorem impl_putNum_l0 (n : Nat) : ∀ (l : List Int) (x : Int), (l.length : Int) + n ≤ 4194304 → 0 ≤ x → x < 2 ^ (7 * (n + 1)) → n ≤ 5 → Ev (fun k => impl_putNum.l0 k l x) (l ++ grp7 n x) := by
  induction n with
  | zero =>
    intro l x hl h0 h1 _
    have h2 : (2 : Int) ^ (7 * (0 + 1)) = 128 := by decide
    refine Ev.step (f := fun _ => some (l ++ [x])) (fun k => ?_) (Ev.now _)
    simp only [impl_putNum.l0]
    rw [if_neg (by omega), if_pos (by omega), show x % 256 = x from by omega]
  | succ n ih =>
    intro l x hl h0 h1 hn
    have hp : (2 : Int) ^ (7 * (n + 1 + 1)) = 2 ^ (7 * (n + 1)) * 128 := by
      rw [show 7 * (n + 1 + 1) = 7 * (n + 1) + 7 from by omega, Int.pow_add]
      rfl
    have hq : (2 : Int) ^ (7 * (n + 1 + 1)) ≤ 4398046511104 := by
      have : n = 0 ∨ n = 1 ∨ n = 2 ∨ n = 3 ∨ n = 4 := by omega
      rcases this with rfl | rfl | rfl | rfl | rfl <;> decide
    by_cases h : x > 127
    · have := ih (l ++ [x % 128 + 128]) (x / 128) (by simp; omega) (by omega) (by rw [hp] at h1; omega) (by omega)
      refine Ev.step (fun k => ?_) (ev_cast ?_ this)
      · simp only [impl_putNum.l0]
        rw [if_pos h, if_pos (by omega), and127_64 x h0 (by omega), or128 _ (by omega) (by omega), show (128 + x % 128) % 256 = x % 128 + 128 from by omega]
      · simp [grp7, h]
    · refine Ev.step (f := fun _ => some (l ++ [x])) (fun k => ?_) (ev_cast ?_ (Ev.now _))
      · simp only [impl_putNum.l0]
        rw [if_neg h, if_pos (by omega), show x % 256 = x from by omega]
      · simp [grp7, h]
theorem mx_clamp (n : Int) : mx (-1000000000000) (mn n 1000000000000) = clampM n := by
  unfold mx mn clampM
  split <;> split <;> (try split) <;> (try split) <;> omega
theorem impl_putNum_ev (l : List Int) (hl : (l.length : Int) ≤ 4194200) (n : Int) : Ev (fun k => impl_putNum.f k l n) (l ++ putNumM n) := by
  have hz := zig_range n
  have h5 : (2 : Int) ^ (7 * (5 + 1)) = 4398046511104 := by decide
  have e := impl_putNum_l0 5 l (zigM (clampM n)) (by omega) hz.1 (by omega) (by omega)
  have e2 : Ev (fun k => impl_putNum.j0 k l (zigM (clampM n))) (l ++ putNumM n) := Ev.step (fun k => by simp only [impl_putNum.j0]) e
  unfold impl_putNum.f
  rw [mx_clamp]
  generalize clampM n = c at *
  unfold zigM at e2
  by_cases hn : c < 0
  · rw [if_pos hn] at e2
    exact ev_pos hn e2
  · rw [if_neg hn] at e2
    exact ev_neg hn e2
theorem impl_putText_ev (l : List Int) (s : ByteArray) (hl : (l.length : Int) ≤ 2097152) (hs : (s.size : Int) ≤ 1048576) : Ev (fun k => impl_putText.f k l s) (l ++ putTextM s) := by
  unfold impl_putText.f
  have hp := putNumM_len s.size
  refine Ev.bind (impl_putNum_ev l (by omega) _) (ev_pos (by rw [List.length_append]; omega) (ev_cast ?_ (Ev.now _)))
  unfold putTextM
  rw [List.append_assoc]
theorem slices_Clone_byte_eq (l : List Int) (hl : (l.length : Int) ≤ 4194304) : slices_Clone_byte_byte.f l = some l := by
  unfold slices_Clone_byte_byte.f
  simp only [Option.bind_some, List.nil_append]
  rw [if_pos (by simp; omega)]
theorem impl_PutText_ev (l : List Int) (s : ByteArray) (hl : (l.length : Int) ≤ 1048576) (hs : (s.size : Int) ≤ 1048576) : Ev (fun k => impl_PutText.f k l s) (l ++ putTextM s) := by
  unfold impl_PutText.f
  rw [slices_Clone_byte_eq l (by omega)]
  exact Ev.bind (Ev.now _) (Ev.bind (impl_putText_ev l s (by omega) hs) (Ev.now _))
theorem rd_set_eq (l : List Int) (i : Nat) (v : Int) (h : i < l.length) : rd (l.set i v) (i : Int) = v := by
  unfold rd
  simp [List.getD_eq_getElem?_getD, h]
theorem set_take (l : List Int) (i : Nat) (v : Int) (h : i < l.length) : (l.set i v).take (i + 1) = l.take i ++ [v] := by
  rw [List.take_succ_eq_append_getElem (by simpa using h)]
  simp [List.take_set]
  rw [List.set_eq_of_length_le (by simp; omega)]
theorem laws_toByteS_l (x : List Int) (hl : (x.length : Int) ≤ 1048576) (d : Nat) : ∀ (i : Nat) (y : List Int), i + d = x.length → y.length = x.length → y.take i = x.take i → Ev (fun k => laws_toByteS.l0 k x y i) x := by
  induction d with
  | zero =>
    intro i y hi hy ht
    refine Ev.step (f := fun _ => some y) (fun k => ?_) (ev_cast ?_ (Ev.now _))
    · simp only [laws_toByteS.l0]; rw [if_neg (by omega)]
    · rwa [List.take_of_length_le (by omega), List.take_of_length_le (by omega)] at ht
  | succ d ih =>
    intro i y hi hy ht
    have := ih (i + 1) (y.set i (rd x i)) (by omega) (by simpa using hy) (by
      rw [set_take _ _ _ (by omega), ht, List.take_succ_eq_append_getElem (by omega)]
      unfold rd
      simp [List.getElem?_eq_getElem (show i < x.length by omega)])
    refine Ev.step (fun k => ?_) this
    simp only [laws_toByteS.l0]
    rw [if_pos (by omega), if_pos (by omega), if_pos (by omega), w64 _ (by omega) (by omega)]
    rfl
theorem laws_toByteS_ev (x : List Int) (hl : (x.length : Int) ≤ 1048576) : Ev (fun k => laws_toByteS.f k x) x := by
  unfold laws_toByteS.f
  exact ev_pos (by omega) (ev_pos (by omega) (laws_toByteS_l x hl x.length 0 _ (by omega) (by simp) (by simp)))
theorem laws_eqByteS_l (x : List Int) (hl : (x.length : Int) ≤ 281474976710656) (d : Nat) : ∀ (i : Nat), i + d = x.length → Ev (fun k => laws_eqByteS.l0 k x x i) true := by
  induction d with
  | zero =>
    intro i hi
    refine Ev.step (f := fun _ => some true) (fun k => ?_) (Ev.now _)
    simp only [laws_eqByteS.l0]; rw [if_neg (by omega)]
  | succ d ih =>
    intro i hi
    refine Ev.step (fun k => ?_) (ih (i + 1) (by omega))
    simp only [laws_eqByteS.l0]
    rw [if_pos (by omega), if_pos (by omega), if_pos (by omega), if_pos trivial, w64 _ (by omega) (by omega)]
    rfl
theorem laws_eqByteS_ev (x : List Int) (hl : (x.length : Int) ≤ 281474976710656) : Ev (fun k => laws_eqByteS.f k x x) true := by
  unfold laws_eqByteS.f
  exact ev_pos rfl (laws_eqByteS_l x hl x.length 0 (by omega))
def markB (n : Nat) (k : Int) : List Int := (List.range n).map fun (i : Nat) => (k + (i : Int)) % 256
theorem markB_len (n : Nat) (k : Int) : (markB n k).length = n := by simp [markB]
theorem markB_rd (n : Nat) (k : Int) (i : Nat) (h : i < n) : rd (markB n k) (i : Int) = (k + (i : Int)) % 256 := by
  unfold rd markB
  simp [List.getD_eq_getElem?_getD, h]
theorem laws_markByteS_l (n : Nat) (k0 : Int) (hn : (n : Int) ≤ 8388608) (hk0 : 0 ≤ k0) (hk : k0 ≤ 8388608) (d : Nat) : ∀ (i : Nat) (y : List Int), i + d = n → y.length = n → y.take i = (markB n k0).take i → Ev (fun k => laws_markByteS.l0 k y (k0 + (i : Int)) i) (k0 + (n : Int), markB n k0) := by
  induction d with
  | zero =>
    intro i y hi hy ht
    refine Ev.step (f := fun _ => some (k0 + (i : Int), y)) (fun k => ?_) (ev_cast ?_ (Ev.now _))
    · simp only [laws_markByteS.l0]; rw [if_neg (by omega)]
    · rw [List.take_of_length_le (by omega), List.take_of_length_le (by rw [markB_len]; omega)] at ht
      rw [ht]; simp; omega
  | succ d ih =>
    intro i y hi hy ht
    have := ih (i + 1) (y.set i ((k0 + (i : Int)) % 256)) (by omega) (by simpa using hy) (by
      rw [set_take _ _ _ (by omega), ht, List.take_succ_eq_append_getElem (by rw [markB_len]; omega)]
      simp [markB])
    refine Ev.step (fun k => ?_) this
    simp only [laws_markByteS.l0]
    rw [if_pos (by omega), if_pos (by omega), w64 _ (by omega) (by omega), w64 _ (by omega) (by omega)]
    have e : k0 + (i : Int) + 1 = k0 + ((i + 1 : Nat) : Int) := by omega
    rw [e]
    rfl
theorem laws_markByteS_ev (l : List Int) (hl : (l.length : Int) ≤ 8388608) : Ev (fun k => laws_markByteS.f k l 1) (1 + (l.length : Int), markB l.length 1) := by
  have := laws_markByteS_l l.length 1 hl (by omega) (by omega) l.length 0 l (by omega) rfl (by simp)
  simpa [laws_markByteS.f] using this
theorem laws_heldByteS_l (n : Nat) (k0 : Int) (hn : (n : Int) ≤ 8388608) (hk0 : 0 ≤ k0) (hk : k0 ≤ 8388608) (d : Nat) : ∀ (i : Nat), i + d = n → Ev (fun k => laws_heldByteS.l0 k (markB n k0) (k0 + (i : Int)) i) (k0 + (n : Int)) := by
  induction d with
  | zero =>
    intro i hi
    refine Ev.step (f := fun _ => some (k0 + (i : Int))) (fun k => ?_) (ev_cast ?_ (Ev.now _))
    · simp only [laws_heldByteS.l0]; rw [if_neg (by rw [markB_len]; omega)]
    · omega
  | succ d ih =>
    intro i hi
    refine Ev.step (fun k => ?_) (ih (i + 1) (by omega))
    simp only [laws_heldByteS.l0]
    rw [if_pos (by rw [markB_len]; omega), if_pos (by omega), markB_rd n k0 i (by omega), if_pos rfl, w64 _ (by omega) (by omega), w64 _ (by omega) (by omega)]
    have e : k0 + (i : Int) + 1 = k0 + ((i + 1 : Nat) : Int) := by omega
    rw [e]
    rfl
theorem laws_heldByteS_ev (n : Nat) (hl : (n : Int) ≤ 8388608) : Ev (fun k => laws_heldByteS.f k (markB n 1) 1) (1 + (n : Int)) := by
  have := laws_heldByteS_l n 1 hl (by omega) (by omega) n 0 (by omega)
  simpa [laws_heldByteS.f] using this
theorem FnExactPutText : laws_FnExactPutText.Pure := by
  intro l a _ _ hb0 _
  have hb : BytesB l := fun x hx => wf_u8 (hb0 x hx)
  refine Ev.rounds (g := fun k => laws_FnExactPutText.f k l a) ?_
  unfold laws_FnExactPutText.f
  by_cases h : (l.length : Int) > 1048576
  · exact ev_pos h (Ev.now _)
  by_cases h2 : (a.size : Int) > 1048576
  · exact ev_neg h (ev_pos h2 (Ev.now _))
  · have hl : (l.length : Int) ≤ 1048576 := by omega
    have hp := putTextM_len a
    have hq : ((l ++ putTextM a).length : Int) ≤ 2097200 := by simp only [List.length_append]; omega
    refine ev_neg h (ev_neg h2 (Ev.bind (laws_toByteS_ev l hl) (Ev.bind (spec_PutText_ev l a (by omega) (by omega)) (Ev.bind (laws_toByteS_ev l hl) (Ev.bind (impl_PutText_ev l a (by omega) (by omega)) ?_)))))
    refine Ev.bind (laws_eqByteS_ev _ (by omega)) (ev_pos rfl (Ev.bind (laws_toByteS_ev l hl) (Ev.bind (laws_eqByteS_ev _ (by omega)) (ev_pos rfl (Ev.bind (laws_markByteS_ev l (by omega)) (ev_neg (by simp only []; omega) (Ev.bind (laws_eqByteS_ev _ (by omega)) ?_)))))))
    generalize hg : l ++ putTextM a = G at *
    have e2 : Ev (fun k => impl_PutText.f k l a) G := hg ▸ impl_PutText_ev l a (by omega) (by omega)
    refine Ev.step (f := fun k => (laws_markByteS.f k G 1).bind fun bt160 => ((laws_heldByteS.f k bt160.2 1).bind fun t162 => (if t162 < 0 then (some false) else (if t162 = bt160.1 then ((laws_toByteS.f k l).bind fun t163 => ((impl_PutText.f k t163 a).bind fun t166 => ((laws_eqByteS.f k t166 G).bind fun t169 => (if t169 = true then ((laws_heldByteS.f k bt160.2 1).bind fun t170 => (if t170 < 0 then (some false) else (if t170 = bt160.1 then (some true) else (some false)))) else (some false))))) else (some false))))) (fun k => ?_) ?_
    · simp only [laws_FnExactPutText.j0]
      rw [if_neg (by decide)]
    · refine Ev.bind (laws_markByteS_ev G (by omega)) (Ev.bind (laws_heldByteS_ev _ (by omega)) (ev_neg (by omega) (ev_pos rfl (Ev.bind (laws_toByteS_ev l hl) (Ev.bind e2 (Ev.bind (laws_eqByteS_ev _ (by omega)) (ev_pos rfl (Ev.bind (laws_heldByteS_ev _ (by omega)) (ev_neg (by omega) (ev_pos rfl (Ev.now _)))))))))))

end Go.Proofs.Ythfiopjabfaejaa.Pure
