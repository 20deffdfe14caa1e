/- What the law FnLexed of this seat says holds for every input that its row speaks of; no further condition. -/
import Derived.Test.YtpbhbpffpkedcaaDoorQFnLexedx10
import Derived.Lib.Strings
set_option linter.unusedVariables false
set_option linter.unusedSimpArgs false
namespace Go.Proofs.YtpbhbpffpkedcaaDoor.Pure
open Go.RowKit Go.Proofs.YtpbhbpffpkedcaaDoor.QFnLexed Go.Proofs.YtpbhbpffpkedcaaDoorW.PrintWords Go.Proofs.YtpbhbpffpkedcaaDoorW.PrintLast Go.Proofs.YtpbhbpffpkedcaaDoorW.PrintMore

theorem ev_pos {α : Type} {c : Prop} [Decidable c] {A B : Nat → Option α} {r : α} (h : c) (e : Ev A r) : Ev (fun k => if c then A k else B k) r := by
  obtain ⟨K, hK⟩ := e
  exact ⟨K, fun k hk => by simp only [if_pos h]; exact hK k hk⟩
theorem ev_neg {α : Type} {c : Prop} [Decidable c] {A B : Nat → Option α} {r : α} (h : ¬ c) (e : Ev B r) : Ev (fun k => if c then A k else B k) r := by
  obtain ⟨K, hK⟩ := e
  exact ⟨K, fun k hk => by simp only [if_neg h]; exact hK k hk⟩
theorem ev_of {α : Type} {o : Option α} {r : α} (h : o = some r) : Ev (fun _ => o) r := ⟨0, fun _ _ => h⟩
theorem ev_cast {α : Type} {g : Nat → Option α} {r r' : α} (h : r = r') (e : Ev g r) : Ev g r' := h ▸ e
theorem ev_uniq {α : Type} {g : Nat → Option α} {r r' : α} (h : Ev g r) (h' : Ev g r') : r = r' := by
  obtain ⟨K, hK⟩ := h
  obtain ⟨K', hK'⟩ := h'
  have a := hK (max K K') (Nat.le_max_left _ _)
  have b := hK' (max K K') (Nat.le_max_right _ _)
  rw [a] at b
  exact Option.some.inj b
theorem w64 (n : Int) (h0 : -9223372036854775808 ≤ n) (h1 : n ≤ 9223372036854775807) : wrap64 n = n := by unfold wrap64; omega
theorem dec_and (p q : Prop) [Decidable p] [Decidable q] : decide (p ∧ q) = (decide p && decide q) := by
  by_cases hp : p <;> by_cases hq : q <;> simp [hp, hq]
theorem laws_big_eq (l : List Int) : laws_big.f l = some (decide ((l.length : Int) > 1048576)) := rfl
def lowB (c : Int) : Bool := decide (97 ≤ c) && decide (c ≤ 122)
def digB (c : Int) : Bool := decide (48 ≤ c) && decide (c ≤ 57)
def atomB (c : Int) : Bool := lowB c || (digB c || decide (c = 95))
def atomFrom (s : ByteArray) (i : Nat) : Bool := (List.range' i (s.size - i)).all fun j => lowB (bt s j) || (!decide (j = 0) && (digB (bt s j) || decide (bt s j = 95)))
def atomOkM (s : ByteArray) : Bool := atomFrom s 0 && (decide (1 ≤ (s.size : Int)) && decide ((s.size : Int) ≤ 20))
theorem atomFrom_end (s : ByteArray) (i : Nat) (h : s.size ≤ i) : atomFrom s i = true := by
  unfold atomFrom
  rw [Nat.sub_eq_zero_of_le h]; rfl
theorem atomFrom_step (s : ByteArray) (i : Nat) (h : i < s.size) : atomFrom s i = ((lowB (bt s i) || (!decide (i = 0) && (digB (bt s i) || decide (bt s i = 95)))) && atomFrom s (i + 1)) := by
  unfold atomFrom
  obtain ⟨n, hn⟩ : ∃ n, s.size - i = n + 1 := ⟨s.size - i - 1, by omega⟩
  rw [hn, show s.size - (i + 1) = n from by omega, List.range'_succ]
  simp [List.all_cons]
theorem wbt (s : ByteArray) (i : Int) : wrap64 (bt s i) = bt s i := by
  have := bt_range s i
  exact w64 _ (by omega) (by omega)
def szRes (left : Int) (b : Nat) : Int := if (b : Int) ≤ left then left - b else -1
theorem getDG {α : Type} (z : α) (l : List α) (i : Nat) (h : i < l.length) : l.getD ((i : Int)).toNat z = l[i] := by
  simp [List.getD_eq_getElem?_getD, List.getElem?_eq_getElem h]
theorem map_loop {α β : Type} (L : Nat → List β → Int → Option (List β)) (f : α → β) (l : List α)
    (hstep : ∀ (i : Nat) (h : i < l.length) (x : List β) (r : List β), x.length = l.length → Ev (fun k => L k (x.set i (f l[i])) ((i + 1 : Nat) : Int)) r → Ev (fun k => L k x (i : Int)) r)
    (hend : ∀ x : List β, x.length = l.length → Ev (fun k => L k x (l.length : Int)) x) (d : Nat) :
    ∀ (i : Nat) (x : List β), i + d = l.length → x.length = l.length → x.take i = (l.map f).take i → Ev (fun k => L k x (i : Int)) (l.map f) := by
  induction d with
  | zero =>
    intro i x hi hx ht
    have e : i = l.length := by omega
    subst e
    refine ev_cast ?_ (hend x hx)
    rwa [List.take_of_length_le (by omega), List.take_of_length_le (by rw [List.length_map]; omega)] at ht
  | succ d ih =>
    intro i x hi hx ht
    have hlt : i < l.length := by omega
    refine hstep i hlt x _ hx (ih (i + 1) _ (by omega) (by simpa using hx) ?_)
    rw [List.take_succ_eq_append_getElem (by simpa using (by omega : i < x.length)), List.take_set_of_le (Nat.le_refl i), ht, List.take_succ_eq_append_getElem (by simpa using hlt)]
    simp
theorem map_loop0 {α β : Type} (L : Nat → List β → Int → Option (List β)) (f : α → β) (l : List α) (z : β)
    (hstep : ∀ (i : Nat) (h : i < l.length) (x : List β) (r : List β), x.length = l.length → Ev (fun k => L k (x.set i (f l[i])) ((i + 1 : Nat) : Int)) r → Ev (fun k => L k x (i : Int)) r)
    (hend : ∀ x : List β, x.length = l.length → Ev (fun k => L k x (l.length : Int)) x) : Ev (fun k => L k (List.replicate l.length z) 0) (l.map f) :=
  map_loop L f l hstep hend l.length 0 (List.replicate l.length z) (by omega) (by simp) (by simp)
def sumB {α : Type} (bud : α → Nat) : List α → Nat
  | [] => 0
  | x :: r => bud x + sumB bud r
theorem sumB_drop {α : Type} (bud : α → Nat) (l : List α) (i : Nat) (h : i < l.length) : sumB bud (l.drop i) = bud l[i] + sumB bud (l.drop (i + 1)) := by
  rw [List.drop_eq_getElem_cons h, sumB]
theorem sumB_mem {α : Type} (bud : α → Nat) : ∀ (l : List α) (x : α), x ∈ l → bud x ≤ sumB bud l
  | [], x, h => by cases h
  | y :: r, x, h => by
    rw [sumB]
    rcases List.mem_cons.1 h with rfl | h
    · omega
    · have := sumB_mem bud r x h; omega
theorem sz_loopG {α : Type} (L : Nat → Int → Int → Option Int) (bud : α → Nat) (l : List α)
    (hstep : ∀ (i : Nat) (h : i < l.length) (left r : Int), 0 ≤ left → left ≤ 1048576 → ((bud l[i] : Int) ≤ left → Ev (fun k => L k (left - bud l[i]) ((i + 1 : Nat) : Int)) r) → (¬ (bud l[i] : Int) ≤ left → r = -1) → Ev (fun k => L k left (i : Int)) r)
    (hend : ∀ left : Int, Ev (fun k => L k left (l.length : Int)) left) (d : Nat) :
    ∀ (i : Nat) (left : Int), i + d = l.length → 0 ≤ left → left ≤ 1048576 → Ev (fun k => L k left (i : Int)) (szRes left (sumB bud (l.drop i))) := by
  induction d with
  | zero =>
    intro i left hi h0 h1
    have e : i = l.length := by omega
    subst e
    refine ev_cast ?_ (hend left)
    rw [List.drop_eq_nil_of_le (by omega), sumB]; unfold szRes; rw [if_pos (by omega)]; omega
  | succ d ih =>
    intro i left hi h0 h1
    have hlt : i < l.length := by omega
    rw [sumB_drop bud l i hlt]
    refine hstep i hlt left _ h0 h1 (fun hb => ?_) (fun hb => ?_)
    · refine ev_cast ?_ (ih (i + 1) (left - bud l[i]) (by omega) (by omega) (by omega))
      unfold szRes
      by_cases hc : (sumB bud (l.drop (i + 1)) : Int) ≤ left - bud l[i]
      · rw [if_pos hc, if_pos (by omega)]; omega
      · rw [if_neg hc, if_neg (by omega)]
    · unfold szRes; rw [if_neg (by omega)]
def allFrom (p : Nat → Bool) (i d : Nat) : Bool := (List.range' i d).all p
theorem all_loop (L : Nat → Int → Option Bool) (p : Nat → Bool) (n : Nat)
    (hstep : ∀ (i : Nat), i < n → ∀ r, (p i = true → Ev (fun k => L k ((i + 1 : Nat) : Int)) r) → (p i = false → r = false) → Ev (fun k => L k (i : Int)) r)
    (hend : Ev (fun k => L k (n : Int)) true) (d : Nat) : ∀ i : Nat, i + d = n → Ev (fun k => L k (i : Int)) (allFrom p i d) := by
  induction d with
  | zero =>
    intro i hi
    have e : i = n := by omega
    subst e
    exact hend
  | succ d ih =>
    intro i hi
    refine hstep i (by omega) _ (fun hp => ?_) (fun hp => ?_)
    · refine ev_cast ?_ (ih (i + 1) (by omega))
      unfold allFrom
      rw [List.range'_succ, List.all_cons, hp, Bool.true_and]
    · unfold allFrom
      rw [List.range'_succ, List.all_cons, hp, Bool.false_and]
theorem tl_inj (a b : ByteArray) : a.toList = b.toList ↔ a.data.toList = b.data.toList := by rw [Go.Lib.toList_data, Go.Lib.toList_data]
theorem tlx (s : ByteArray) (n : Nat) : (s.extract 0 n).data.toList = s.data.toList.take n := by
  simp [ByteArray.data_extract, Array.toList_extract, List.extract]
theorem ixb (l : List UInt8) (c : UInt8) : (Go.Lib.indexByte l c ≥ 0) ↔ c ∈ l := by
  induction l with
  | nil => simp [Go.Lib.indexByte]
  | cons b l ih =>
    have := Go.Lib.indexByte_ge l c
    unfold Go.Lib.indexByte
    by_cases h : b = c
    · simp [h]
    · have h2 : ¬ c = b := fun e => h e.symm
      simp only [beq_iff_eq, h, if_false, List.mem_cons, h2, false_or]
      rw [← ih]
      split <;> omega
theorem size_len (s : ByteArray) : s.size = s.data.toList.length := by
  rw [Array.length_toList]; rfl
theorem bt0 (s : ByteArray) (c : UInt8) (l : List UInt8) (h : s.data.toList = c :: l) : (bt s 0).toNat.toUInt8 = c := by
  have h0 : 0 < s.size := by rw [size_len, h]; simp
  have := bt_at s 0 (by simpa using h0)
  rw [← this]
  have e : s[(0 : Int).toNat]'(by simpa using h0) = c := by
    have q : s.data.toList[0]'(by rw [h]; simp) = c := by simp [h]
    rw [← q]
    rfl
  rw [e]
  simp
def largeB (c : Int) : Bool := (decide (65 ≤ c) && decide (c ≤ 90)) || decide (c = 95)
def varP (s : ByteArray) (i : Nat) : Bool := largeB (bt s i) || (!decide (i = 0) && (lowB (bt s i) || digB (bt s i)))
def varQ (s : ByteArray) (i : Nat) : Bool := lowB (bt s i) || (largeB (bt s i) || digB (bt s i))
def in20 (s : ByteArray) : Bool := decide (1 ≤ (s.size : Int)) && decide ((s.size : Int) ≤ 20)
def varOkM (s : ByteArray) : Bool := allFrom (varP s) 0 s.size && in20 s
theorem allFrom_iff (p : Nat → Bool) (n : Nat) : allFrom p 0 n = true ↔ ∀ i, i < n → p i = true := by
  unfold allFrom
  rw [List.all_eq_true]
  constructor
  · intro h i hi
    exact h i (by rw [List.mem_range'_1]; omega)
  · intro h i hi
    rw [List.mem_range'_1] at hi
    exact h i (by omega)
theorem varOk_same (s : ByteArray) : (allFrom (varQ s) 0 s.size && (in20 s && largeB (bt s 0))) = varOkM s := by
  unfold varOkM
  cases hn : in20 s with
  | false => simp
  | true =>
    rw [Bool.true_and, Bool.and_true, Bool.eq_iff_iff, Bool.and_eq_true, allFrom_iff, allFrom_iff]
    unfold in20 at hn
    rw [Bool.and_eq_true, decide_eq_true_eq, decide_eq_true_eq] at hn
    constructor
    · rintro ⟨h, h0⟩ i hi
      have := h i hi
      unfold varQ at this
      unfold varP
      by_cases hz : i = 0
      · subst hz
        rw [show ((0 : Nat) : Int) = 0 from rfl, h0]; rfl
      · rw [decide_eq_false hz]
        revert this
        cases lowB (bt s i) <;> cases largeB (bt s i) <;> cases digB (bt s i) <;> simp
    · intro h
      refine ⟨fun i hi => ?_, ?_⟩
      · have := h i hi
        unfold varP at this
        unfold varQ
        revert this
        cases lowB (bt s i) <;> cases largeB (bt s i) <;> cases digB (bt s i) <;> simp
      · have := h 0 (by omega)
        unfold varP at this
        simpa using this
theorem all_loopB (L : Nat → Int → Option Bool) (p : Nat → Bool) (n : Nat) (b : Bool)
    (hstep : ∀ (i : Nat), i < n → ∀ r, (p i = true → Ev (fun k => L k ((i + 1 : Nat) : Int)) r) → (p i = false → r = false) → Ev (fun k => L k (i : Int)) r)
    (hend : Ev (fun k => L k (n : Int)) b) (d : Nat) : ∀ i : Nat, i + d = n → Ev (fun k => L k (i : Int)) (allFrom p i d && b) := by
  induction d with
  | zero =>
    intro i hi
    have e : i = n := by omega
    subst e
    exact ev_cast (by unfold allFrom; simp) hend
  | succ d ih =>
    intro i hi
    refine hstep i (by omega) _ (fun hp => ?_) (fun hp => ?_)
    · refine ev_cast ?_ (ih (i + 1) (by omega))
      unfold allFrom
      rw [List.range'_succ, List.all_cons, hp, Bool.true_and]
    · unfold allFrom
      rw [List.range'_succ, List.all_cons, hp, Bool.false_and, Bool.false_and]
def onesL : List UInt8 := [40, 41, 123, 125, 91, 93, 44, 46, 59, 124, 60, 43, 45, 42]
def markOkL (l : List UInt8) : Bool := decide (l = [45, 62]) || (decide (l = [61, 61]) || onesL.any (fun c => decide (l = [c])))
theorem ones_at (i : Nat) (h : i < 14) : ((⟨#[40, 41, 123, 125, 91, 93, 44, 46, 59, 124, 60, 43, 45, 42]⟩ : ByteArray).extract i (i + 1)).data.toList = [onesL.getD i 0] := by
  have : i = 0 ∨ i = 1 ∨ i = 2 ∨ i = 3 ∨ i = 4 ∨ i = 5 ∨ i = 6 ∨ i = 7 ∨ i = 8 ∨ i = 9 ∨ i = 10 ∨ i = 11 ∨ i = 12 ∨ i = 13 := by omega
  rcases this with rfl | rfl | rfl | rfl | rfl | rfl | rfl | rfl | rfl | rfl | rfl | rfl | rfl | rfl <;> rfl
def isDg (c : UInt8) : Bool := decide (48 ≤ c.toNat) && decide (c.toNat ≤ 57)
theorem dg_nat (u : Nat) (h : u < 10) : (UInt8.ofNat (48 + u)).toNat = 48 + u := by
  rw [UInt8.toNat_ofNat']
  exact Nat.mod_eq_of_lt (by omega)
theorem decDigits_dg (n : Nat) : ∀ u, u ≤ n → ∀ c ∈ Go.Lib.decDigits u, isDg c = true := by
  have one : ∀ u, u < 10 → isDg (UInt8.ofNat (48 + u)) = true := by
    intro u h
    unfold isDg
    rw [dg_nat u h]
    simp
    omega
  induction n with
  | zero =>
    intro u hu c hc
    obtain rfl : u = 0 := by omega
    rw [Go.Lib.decDigits, dif_pos (by omega)] at hc
    obtain rfl := List.mem_singleton.1 hc
    exact one 0 (by omega)
  | succ n ih =>
    intro u hu c hc
    by_cases h : u < 10
    · rw [Go.Lib.decDigits, dif_pos h] at hc
      obtain rfl := List.mem_singleton.1 hc
      exact one u h
    · rw [Go.Lib.decDigits, dif_neg h] at hc
      rcases List.mem_append.1 hc with hc | hc
      · exact ih (u / 10) (by omega) c hc
      · obtain rfl := List.mem_singleton.1 hc
        exact one (u % 10) (by omega)
def decVal (l : List UInt8) : Nat := l.foldl (fun a c => a * 10 + (c.toNat - 48)) 0
theorem decVal_dec (n : Nat) : ∀ u, u ≤ n → decVal (Go.Lib.decDigits u) = u := by
  have one : ∀ u, u < 10 → decVal (Go.Lib.decDigits u) = u := by
    intro u h
    rw [Go.Lib.decDigits, dif_pos h]
    unfold decVal
    rw [List.foldl_cons, List.foldl_nil, dg_nat u h]
    omega
  induction n with
  | zero => intro u hu; exact one u (by omega)
  | succ n ih =>
    intro u hu
    by_cases h : u < 10
    · exact one u h
    · have e := ih (u / 10) (by omega)
      rw [Go.Lib.decDigits, dif_neg h]
      unfold decVal at e ⊢
      rw [List.foldl_append, e, List.foldl_cons, List.foldl_nil, dg_nat (u % 10) (by omega)]
      omega
theorem decDigits_inj {u v : Nat} (h : Go.Lib.decDigits u = Go.Lib.decDigits v) : u = v := by
  rw [← decVal_dec u u (Nat.le_refl _), h, decVal_dec v v (Nat.le_refl _)]
theorem decDigits_ne (u : Nat) : ∃ c t, Go.Lib.decDigits u = c :: t := by
  rw [Go.Lib.decDigits]
  split
  · exact ⟨_, _, rfl⟩
  · cases Go.Lib.decDigits (u / 10) with
    | nil => exact ⟨_, _, rfl⟩
    | cons c t => exact ⟨_, _, rfl⟩
/-- A number's text: a figure first, or a '-' and figures. -/
theorem itoa_chars (n : Int) : ∀ c ∈ Go.Lib.itoa n, c = 45 ∨ isDg c = true := by
  intro c hc
  unfold Go.Lib.itoa at hc
  split at hc
  · rcases List.mem_cons.1 hc with rfl | hc
    · exact .inl rfl
    · exact .inr (decDigits_dg _ _ (Nat.le_refl _) c hc)
  · exact .inr (decDigits_dg _ _ (Nat.le_refl _) c hc)
theorem itoa_ne (n : Int) : ∃ c t, Go.Lib.itoa n = c :: t := by
  unfold Go.Lib.itoa
  split
  · exact ⟨_, _, rfl⟩
  · exact decDigits_ne _
theorem isDg_45 : isDg 45 = false := by decide
theorem itoa_inj {m n : Int} (h : Go.Lib.itoa m = Go.Lib.itoa n) : m = n := by
  have no : ∀ (u v : Nat), 45 :: Go.Lib.decDigits u ≠ Go.Lib.decDigits v := by
    intro u v e
    have := decDigits_dg v v (Nat.le_refl _) 45 (by rw [← e]; exact List.mem_cons_self)
    rw [isDg_45] at this
    cases this
  unfold Go.Lib.itoa at h
  split at h <;> split at h
  · have := decDigits_inj (List.cons.inj h).2; omega
  · exact absurd h (no _ _)
  · exact absurd h.symm (no _ _)
  · have := decDigits_inj h; omega
def tokOkM (a b : Int) (s : ByteArray) : Bool :=
  if a = 1 then (decide (0 ≤ b) && decide (b ≤ 1000000000000)) && decide (s.data.toList = [])
  else if a = 2 then atomOkM s && decide (b = 0)
  else if a = 3 then varOkM s && decide (b = 0)
  else if a = 4 then markOkL s.data.toList && decide (b = 0)
  else false
theorem empty_beq (s : ByteArray) : (s.toList == ([] : List UInt8)) = decide (s.data.toList = []) := by
  rw [Go.Lib.toList_data, Bool.eq_iff_iff, beq_iff_eq, decide_eq_true_eq]
theorem ba_app (a b : List UInt8) : ((⟨a.toArray⟩ : ByteArray) ++ (⟨b.toArray⟩ : ByteArray)) = ⟨(a ++ b).toArray⟩ := by
  apply ByteArray.ext
  simp [ByteArray.data_append]
theorem ba_size (a : List UInt8) : (⟨a.toArray⟩ : ByteArray).size = a.length := by simp [ByteArray.size]
theorem dig_num (u : Nat) (h : u < 10) : strOfNums [(48 + (u : Int)) % 256] = ⟨[UInt8.ofNat (48 + u)].toArray⟩ := by
  unfold strOfNums
  have e : ((48 + (u : Int)) % 256).toNat = 48 + u := by omega
  simp [e]
theorem strconv_Itoa_eq (n : Int) (h0 : -9223372036854775808 ≤ n) (h1 : n ≤ 9223372036854775807) : strconv_Itoa.f n = some ⟨(Go.Lib.itoa n).toArray⟩ := by
  unfold strconv_Itoa.f
  rw [if_pos ⟨h0, h1⟩]
theorem size_len2 (s : ByteArray) : s.size = s.data.toList.length := by
  rw [Array.length_toList]; rfl
theorem decDigits_le : ∀ (m u : Nat), u < 10 ^ (m + 1) → (Go.Lib.decDigits u).length ≤ m + 1
  | 0, u, h => by rw [Go.Lib.decDigits_one (by omega)]; simp
  | m + 1, u, h => by
    by_cases hu : u < 10
    · rw [Go.Lib.decDigits_one hu]; simp
    · rw [Go.Lib.decDigits, dif_neg hu, List.length_append, List.length_singleton]
      have := decDigits_le m (u / 10) (by rw [Nat.pow_succ] at h; omega)
      omega
theorem itoa_le (n : Int) (h0 : -9223372036854775808 ≤ n) (h1 : n ≤ 9223372036854775807) : (Go.Lib.itoa n).length ≤ 20 := by
  unfold Go.Lib.itoa
  by_cases h : n < 0
  · rw [if_pos h]
    have := decDigits_le 18 n.natAbs (by omega)
    simp only [List.length_cons]; omega
  · rw [if_neg h]
    have := decDigits_le 18 n.toNat (by omega)
    omega
theorem ba_eta (s : ByteArray) : (⟨s.data.toList.toArray⟩ : ByteArray) = s := by
  cases s; simp
theorem ba_cat (a b : ByteArray) : (a ++ b).data.toList = a.data.toList ++ b.data.toList := by simp [ByteArray.data_append]
theorem ba_mk {a : ByteArray} {l : List UInt8} (h : a.data.toList = l) : a = ⟨l.toArray⟩ := by rw [← h, ba_eta]
theorem bt_cons (s : ByteArray) (i : Nat) (h : i < s.size) : ∃ (c : UInt8) (r : List UInt8), s.data.toList.drop i = c :: r ∧ r = s.data.toList.drop (i + 1) ∧ bt s (i : Int) = (c.toNat : Int) := by
  have hl : i < s.data.toList.length := by rw [← size_len]; exact h
  refine ⟨s.data.toList[i], _, List.drop_eq_getElem_cons hl, rfl, ?_⟩
  unfold bt
  rw [dif_pos (by simpa using h)]
  simp
  rfl
theorem cut_list (s : ByteArray) (i j : Nat) : (s.extract i j).data.toList = (s.data.toList.drop i).take (j - i) := by
  simp [ByteArray.data_extract, Array.toList_extract, List.extract]
theorem tail_list (s : ByteArray) (i : Nat) : (s.extract i s.size).data.toList = s.data.toList.drop i := by
  rw [cut_list, List.take_of_length_le]
  rw [List.length_drop, size_len]
  exact Nat.le_refl _
def blankI (n : Int) : Bool := decide (n = 32) || (decide (n = 9) || (decide (n = 10) || decide (n = 13)))
def passL : Bool → List UInt8 → List UInt8
  | _, [] => []
  | true, c :: r => if (c.toNat : Int) = 10 then passL false r else passL true r
  | false, c :: r => if blankI (c.toNat : Int) = true then passL false r else if (c.toNat : Int) = 37 then passL true r else c :: r
theorem passL_len : ∀ (L : List UInt8) (b : Bool), (passL b L).length ≤ L.length
  | [], b => by cases b <;> exact Nat.le_refl _
  | c :: r, true => by
    rw [passL]
    have h1 := passL_len r false
    have h2 := passL_len r true
    rw [List.length_cons]
    split <;> omega
  | c :: r, false => by
    rw [passL]
    have h1 := passL_len r false
    have h2 := passL_len r true
    split
    · rw [List.length_cons]; omega
    · split
      · rw [List.length_cons]; omega
      · exact Nat.le_refl _
theorem passL_idem : ∀ (L : List UInt8) (b : Bool), passL false (passL b L) = passL b L
  | [], b => by cases b <;> rfl
  | c :: r, true => by
    rw [passL]
    split
    · exact passL_idem r false
    · exact passL_idem r true
  | c :: r, false => by
    rw [passL]
    split
    · exact passL_idem r false
    · split
      · exact passL_idem r true
      · next h1 h2 => rw [passL, if_neg h1, if_neg h2]
def runP (x2 x3 : Bool) (n : Int) : Bool := digB n || ((x2 && (lowB n || decide (n = 95))) || (x3 && largeB n))
def wordL (x2 x3 : Bool) (L : List UInt8) : List UInt8 := L.takeWhile (fun c => runP x2 x3 (c.toNat : Int))
def numOk (w : List UInt8) : Bool := decide (w.length ≤ 13) && ((decide (w.length ≤ 1) || !decide (w.head? = some 48)) && decide (decVal w ≤ 1000000000000))
structure OneR where
  a : Int
  b : Int
  s : ByteArray
  n : Nat
  ok : Bool
def oneM : List UInt8 → OneR
  | [] => ⟨0, 0, ⟨#[]⟩, 0, false⟩
  | c :: r =>
    if digB (c.toNat : Int) = true then ⟨1, decVal (wordL false false (c :: r)), ⟨#[]⟩, (wordL false false (c :: r)).length, numOk (wordL false false (c :: r))⟩
    else if lowB (c.toNat : Int) = true then ⟨2, 0, ⟨(wordL true false (c :: r)).toArray⟩, (wordL true false (c :: r)).length, atomOkM ⟨(wordL true false (c :: r)).toArray⟩⟩
    else if largeB (c.toNat : Int) = true then ⟨3, 0, ⟨(wordL true true (c :: r)).toArray⟩, (wordL true true (c :: r)).length, varOkM ⟨(wordL true true (c :: r)).toArray⟩⟩
    else if markOkL ((c :: r).take 2) = true ∧ 1 ≤ r.length then ⟨4, 0, ⟨((c :: r).take 2).toArray⟩, 2, true⟩
    else ⟨4, 0, ⟨[c].toArray⟩, 1, markOkL [c]⟩
theorem wordL_pos (x2 x3 : Bool) (c : UInt8) (r : List UInt8) (h : runP x2 x3 (c.toNat : Int) = true) : 1 ≤ (wordL x2 x3 (c :: r)).length := by
  unfold wordL
  rw [List.takeWhile_cons, if_pos (by exact h), List.length_cons]
  omega
theorem oneM_pos (c : UInt8) (r : List UInt8) : 1 ≤ (oneM (c :: r)).n := by
  rw [oneM]
  split
  next h => exact wordL_pos _ _ c r (by unfold runP; rw [h]; rfl)
  next h =>
    split
    next h2 => exact wordL_pos _ _ c r (by unfold runP; rw [h2]; simp)
    next h2 =>
      split
      next h3 => exact wordL_pos _ _ c r (by unfold runP; rw [h3]; simp)
      next h3 => split <;> simp
def lexL (sz : Nat) : Nat → List UInt8 → List S42 → List S42 × Int
  | 0, _, acc => (acc, -1)
  | _ + 1, [], acc => (acc, -1)
  | n + 1, c :: r, acc => if (oneM (c :: r)).ok = true then (if acc.length = 2000 then ([], (sz : Int) - (c :: r).length) else lexL sz n (passL false ((c :: r).drop (oneM (c :: r)).n)) (acc ++ [⟨(oneM (c :: r)).a, (oneM (c :: r)).b, (oneM (c :: r)).s⟩])) else ([], (sz : Int) - (c :: r).length)
theorem lexL_fuel (sz : Nat) : ∀ (n m : Nat) (L : List UInt8) (acc : List S42), L.length < n → L.length < m → lexL sz n L acc = lexL sz m L acc := by
  intro n
  induction n with
  | zero => intro m L acc h; omega
  | succ n ih =>
    intro m L acc h1 h2
    obtain ⟨m, rfl⟩ : ∃ m', m = m' + 1 := ⟨m - 1, by omega⟩
    cases L with
    | nil => rfl
    | cons c r =>
      rw [lexL, lexL]
      have hlc : (c :: r).length = r.length + 1 := rfl
      have hp := oneM_pos c r
      have hl := passL_len ((c :: r).drop (oneM (c :: r)).n) false
      rw [List.length_drop] at hl
      rw [ih m (passL false ((c :: r).drop (oneM (c :: r)).n)) _ (by omega) (by omega)]
def lexN (sz : Nat) (L : List UInt8) (acc : List S42) : List S42 × Int := lexL sz (L.length + 1) L acc
theorem lexN_nil (sz : Nat) (acc : List S42) : lexN sz [] acc = (acc, -1) := rfl
theorem lexN_cons (sz : Nat) (c : UInt8) (r : List UInt8) (acc : List S42) : lexN sz (c :: r) acc = if (oneM (c :: r)).ok = true then (if acc.length = 2000 then ([], (sz : Int) - (c :: r).length) else lexN sz (passL false ((c :: r).drop (oneM (c :: r)).n)) (acc ++ [⟨(oneM (c :: r)).a, (oneM (c :: r)).b, (oneM (c :: r)).s⟩])) else ([], (sz : Int) - (c :: r).length) := by
  unfold lexN
  rw [lexL]
  have hlc : (c :: r).length = r.length + 1 := rfl
  have hp := oneM_pos c r
  have hl := passL_len ((c :: r).drop (oneM (c :: r)).n) false
  rw [List.length_drop] at hl
  rw [lexL_fuel sz (c :: r).length ((passL false ((c :: r).drop (oneM (c :: r)).n)).length + 1) _ _ (by omega) (by omega)]
theorem wordL_all (x2 x3 : Bool) (L : List UInt8) : ∀ c ∈ wordL x2 x3 L, runP x2 x3 (c.toNat : Int) = true := by
  intro c hc
  unfold wordL at hc
  exact List.all_eq_true.1 List.all_takeWhile c hc
theorem word_take (x2 x3 : Bool) (L : List UInt8) : L.take (wordL x2 x3 L).length = wordL x2 x3 L :=
  (List.prefix_iff_eq_take.1 (List.takeWhile_prefix _)).symm
theorem word_cut (s : ByteArray) (i : Nat) (x2 x3 : Bool) : s.extract i (i + (wordL x2 x3 (s.data.toList.drop i)).length) = ⟨(wordL x2 x3 (s.data.toList.drop i)).toArray⟩ := by
  apply ba_mk
  rw [cut_list, Nat.add_sub_cancel_left, word_take]
theorem word_le (s : ByteArray) (i : Nat) (x2 x3 : Bool) : i + (wordL x2 x3 (s.data.toList.drop i)).length ≤ max i s.size := by
  have h : (wordL x2 x3 (s.data.toList.drop i)).length ≤ (s.data.toList.drop i).length := (List.takeWhile_prefix _).length_le
  rw [List.length_drop, ← size_len] at h
  omega
def numFrom (acc : Nat) (w : List UInt8) : Nat := w.foldl (fun a c => a * 10 + (c.toNat - 48)) acc
theorem numFrom_bound (w : List UInt8) : ∀ acc : Nat, (∀ c ∈ w, digB (c.toNat : Int) = true) → numFrom acc w + 1 ≤ (acc + 1) * 10 ^ w.length := by
  induction w with
  | nil => intro acc _; unfold numFrom; simp
  | cons c r ih =>
    intro acc h
    have hd := h c List.mem_cons_self
    unfold digB at hd
    simp only [Bool.and_eq_true, decide_eq_true_eq] at hd
    have := ih (acc * 10 + (c.toNat - 48)) (fun x hx => h x (List.mem_cons_of_mem _ hx))
    have e : numFrom acc (c :: r) = numFrom (acc * 10 + (c.toNat - 48)) r := rfl
    rw [e, List.length_cons, Nat.pow_succ]
    have h2 : (acc * 10 + (c.toNat - 48) + 1) * 10 ^ r.length ≤ (acc + 1) * (10 ^ r.length * 10) := by
      rw [← Nat.mul_assoc, Nat.mul_right_comm]
      exact Nat.mul_le_mul_right _ (by omega)
    omega
theorem mark_two (c : UInt8) (r : List UInt8) : (markOkL ((c :: r).take 2) = true ∧ 1 ≤ r.length) ↔ ((c :: r).take 2 = [45, 62] ∨ (c :: r).take 2 = [61, 61]) := by
  cases r with
  | nil => simp
  | cons d r =>
    simp only [List.take_succ_cons, List.take_zero, List.length_cons]
    unfold markOkL onesL
    simp
theorem mark_one (c : UInt8) : markOkL [c] = decide (c ∈ onesL) := by
  unfold markOkL
  rw [decide_eq_false (by simp), decide_eq_false (by simp), Bool.false_or, Bool.false_or, Bool.eq_iff_iff, List.any_eq_true, decide_eq_true_eq]
  constructor
  · rintro ⟨d, hd, h⟩
    rw [decide_eq_true_eq] at h
    injection h with h h2
    exact h ▸ hd
  · intro h
    exact ⟨c, h, by simp⟩
theorem tok4 (l : List UInt8) : tokOkM 4 0 ⟨l.toArray⟩ = markOkL l := by
  unfold tokOkM
  rw [if_neg (by decide), if_neg (by decide), if_neg (by decide), if_pos rfl]
  simp
theorem tok2 (s : ByteArray) : tokOkM 2 0 s = atomOkM s := by
  unfold tokOkM
  rw [if_neg (by decide), if_pos rfl]
  simp
theorem tok3 (s : ByteArray) : tokOkM 3 0 s = varOkM s := by
  unfold tokOkM
  rw [if_neg (by decide), if_neg (by decide), if_pos rfl]
  simp
theorem oneM_le (L : List UInt8) : (oneM L).n ≤ L.length := by
  have wl : ∀ x2 x3 (L : List UInt8), (wordL x2 x3 L).length ≤ L.length := fun x2 x3 L => (List.takeWhile_prefix _).length_le
  cases L with
  | nil => exact Nat.le_refl _
  | cons c r =>
    rw [oneM]
    split
    · exact wl _ _ _
    split
    · exact wl _ _ _
    split
    · exact wl _ _ _
    split
    · rename_i h
      have := h.2
      show 2 ≤ _
      rw [List.length_cons]; omega
    · show 1 ≤ _
      rw [List.length_cons]; omega
def tokTextM (a b : Int) (s : ByteArray) : ByteArray := if tokOkM a b s = true then (if a = 1 then ⟨(Go.Lib.itoa b).toArray⟩ else s) else ⟨#[]⟩
theorem tokOk_int {a b : Int} {s : ByteArray} (h : tokOkM a b s = true) (ha : a = 1) : 0 ≤ b ∧ b ≤ 1000000000000 := by
  unfold tokOkM at h
  rw [if_pos ha] at h
  simp only [Bool.and_eq_true, decide_eq_true_eq] at h
  exact h.1
theorem tokTextM_int {a b : Int} {s : ByteArray} (h : tokOkM a b s = true) (h1 : a = 1) : ⟨(Go.Lib.itoa b).toArray⟩ = tokTextM a b s := by unfold tokTextM; rw [if_pos h, if_pos h1]
theorem tokTextM_str {a b : Int} {s : ByteArray} (h : tokOkM a b s = true) (h1 : ¬ a = 1) : s = tokTextM a b s := by unfold tokTextM; rw [if_pos h, if_neg h1]
theorem tokTextM_no {a b : Int} {s : ByteArray} (h : ¬ tokOkM a b s = true) : ⟨#[]⟩ = tokTextM a b s := by unfold tokTextM; rw [if_neg h]
theorem joinTail_len (sep : List UInt8) : ∀ r : List (List UInt8), (Go.Lib.joinTail sep r).length = sumB (fun x => sep.length + x.length) r
  | [] => by simp [Go.Lib.joinTail, sumB]
  | x :: r => by
    have := joinTail_len sep r
    unfold Go.Lib.joinTail at this ⊢
    rw [List.map_cons, List.flatten_cons, List.length_append, this, sumB, List.length_append]
theorem join_cons (sep x : List UInt8) (r : List (List UInt8)) : Go.Lib.join (x :: r) sep = x ++ Go.Lib.joinTail sep r := Go.Lib.join_cons x r sep
theorem sumB_map {α β : Type} (f : β → Nat) (g : α → β) : ∀ l : List α, sumB f (l.map g) = sumB (fun x => f (g x)) l
  | [] => rfl
  | x :: r => by rw [List.map_cons, sumB, sumB, sumB_map f g r]
theorem sumB_le {α : Type} (f g : α → Nat) (c : Nat) : ∀ l : List α, (∀ x ∈ l, f x ≤ g x + c) → sumB f l ≤ sumB g l + c * l.length
  | [], _ => by simp [sumB]
  | x :: r, h => by
    have h1 := h x (List.mem_cons_self)
    have h2 := sumB_le f g c r (fun y hy => h y (List.mem_cons_of_mem _ hy))
    rw [sumB, sumB, List.length_cons, Nat.mul_add]
    omega
theorem join_len (sep : List UInt8) (l : List (List UInt8)) : (Go.Lib.join l sep).length ≤ sumB List.length l + sep.length * l.length := by
  cases l with
  | nil => simp [Go.Lib.join_nil, sumB]
  | cons x r =>
    rw [join_cons, List.length_append, joinTail_len, sumB, List.length_cons, Nat.mul_add]
    have := sumB_le (fun x => sep.length + x.length) List.length sep.length r (fun y _ => by omega)
    omega
theorem rd_it (l : List S42) (i : Nat) (h : i < l.length) : rd_T42 l (i : Int) = l[i] := getDG _ l i h
def tkT (x : S42) : ByteArray := tokTextM x.f0 x.f1 x.f2
theorem tkT_size (x : S42) : (tkT x).size ≤ x.f2.size + 20 := by
  unfold tkT tokTextM
  by_cases h : tokOkM x.f0 x.f1 x.f2 = true
  · rw [if_pos h]
    by_cases h1 : x.f0 = 1
    · rw [if_pos h1, ba_size]
      obtain ⟨a, b⟩ := tokOk_int h h1
      have := itoa_le x.f1 (by omega) (by omega)
      omega
    · rw [if_neg h1]; omega
  · rw [if_neg h]
    show 0 ≤ _
    omega
def joinT (l : List S42) : ByteArray := ⟨(Go.Lib.join (l.map fun x => (tkT x).data.toList) [32]).toArray⟩
def tkB (x : S42) : Nat := x.f2.size
theorem sp32 : (⟨#[32]⟩ : ByteArray).data.toList = [32] := rfl
theorem tk_sum (l : List S42) (hl : (l.length : Int) ≤ 1048576) (hb : (sumB tkB l : Int) ≤ 1048576) : sumB (fun x => 1 + (tkT x).size) l ≤ 50000000 := by
  have := sumB_le (fun x => 1 + (tkT x).size) tkB 21 l (fun x _ => by have := tkT_size x; unfold tkB; omega)
  omega
def tokD : List (S42 × List UInt8) := [(⟨1, 0, ⟨#[]⟩⟩, [48]), (⟨1, 7, ⟨#[]⟩⟩, [55]), (⟨1, 42, ⟨#[]⟩⟩, [52, 50]), (⟨1, 1000000000000, ⟨#[]⟩⟩, [49, 48, 48, 48, 48, 48, 48, 48, 48, 48, 48, 48, 48]),
  (⟨2, 0, ⟨#[111, 107]⟩⟩, [111, 107]), (⟨2, 0, ⟨#[99, 97, 115, 101]⟩⟩, [99, 97, 115, 101]), (⟨2, 0, ⟨#[97, 95, 49]⟩⟩, [97, 95, 49]),
  (⟨3, 0, ⟨#[88]⟩⟩, [88]), (⟨3, 0, ⟨#[95]⟩⟩, [95]), (⟨3, 0, ⟨#[83, 116, 97, 116, 101, 49]⟩⟩, [83, 116, 97, 116, 101, 49]), (⟨3, 0, ⟨#[95, 97]⟩⟩, [95, 97]),
  (⟨4, 0, ⟨#[40]⟩⟩, [40]), (⟨4, 0, ⟨#[41]⟩⟩, [41]), (⟨4, 0, ⟨#[45, 62]⟩⟩, [45, 62]), (⟨4, 0, ⟨#[61, 61]⟩⟩, [61, 61]), (⟨4, 0, ⟨#[60]⟩⟩, [60]), (⟨4, 0, ⟨#[45]⟩⟩, [45]), (⟨4, 0, ⟨#[44]⟩⟩, [44]), (⟨4, 0, ⟨#[124]⟩⟩, [124]), (⟨4, 0, ⟨#[91]⟩⟩, [91]), (⟨4, 0, ⟨#[125]⟩⟩, [125])]
theorem tokD_sp : ∀ q ∈ tokD, ∀ R : List UInt8, passL false (q.2 ++ 32 :: R) = q.2 ++ 32 :: R ∧ oneM (q.2 ++ 32 :: R) = ⟨q.1.f0, q.1.f1, q.1.f2, q.2.length, true⟩ := by
  intro q hq R
  simp only [tokD, List.mem_cons, List.not_mem_nil, or_false] at hq
  rcases hq with rfl | rfl | rfl | rfl | rfl | rfl | rfl | rfl | rfl | rfl | rfl | rfl | rfl | rfl | rfl | rfl | rfl | rfl | rfl | rfl | rfl
  all_goals exact ⟨by kernel_rfl, by kernel_rfl⟩
theorem tokD_end : ∀ q ∈ tokD, passL false (q.2 ++ []) = q.2 ++ [] ∧ oneM (q.2 ++ []) = ⟨q.1.f0, q.1.f1, q.1.f2, q.2.length, true⟩ := by
  intro q hq
  simp only [tokD, List.mem_cons, List.not_mem_nil, or_false] at hq
  rcases hq with rfl | rfl | rfl | rfl | rfl | rfl | rfl | rfl | rfl | rfl | rfl | rfl | rfl | rfl | rfl | rfl | rfl | rfl | rfl | rfl | rfl
  all_goals exact ⟨by kernel_rfl, by kernel_rfl⟩
theorem tokD_ok : ∀ q ∈ tokD, tokOkM q.1.f0 q.1.f1 q.1.f2 = true ∧ q.1.f2.size ≤ 10 ∧ q.2 ≠ [] := by
  intro q hq
  simp only [tokD, List.mem_cons, List.not_mem_nil, or_false] at hq
  rcases hq with rfl | rfl | rfl | rfl | rfl | rfl | rfl | rfl | rfl | rfl | rfl | rfl | rfl | rfl | rfl | rfl | rfl | rfl | rfl | rfl | rfl
  all_goals exact ⟨by kernel_rfl, by decide, by simp⟩
theorem tokD_text : ∀ q ∈ tokD, (tkT q.1).data.toList = q.2 := by
  intro q hq
  have ho := (tokD_ok q hq).1
  unfold tkT tokTextM
  rw [if_pos ho]
  simp only [tokD, List.mem_cons, List.not_mem_nil, or_false] at hq
  rcases hq with rfl | rfl | rfl | rfl | rfl | rfl | rfl | rfl | rfl | rfl | rfl | rfl | rfl | rfl | rfl | rfl | rfl | rfl | rfl | rfl | rfl
  all_goals first
    | rfl
    | (simp [Go.Lib.itoa, Go.Lib.decDigits]; done)
    | (simp [Go.Lib.itoa, Go.Lib.decDigits]; decide)
theorem lex_round (sz : Nat) : ∀ (l : List (S42 × List UInt8)) (acc : List S42), (∀ q ∈ l, q ∈ tokD) → acc.length + l.length ≤ 2000 → lexN sz (passL false (Go.Lib.join (l.map Prod.snd) [32])) acc = (acc ++ l.map Prod.fst, -1)
  | [], acc, _, _ => by
    have : passL false (Go.Lib.join (([] : List (S42 × List UInt8)).map Prod.snd) [32]) = [] := rfl
    rw [this, lexN_nil, List.map_nil, List.append_nil]
  | q :: l, acc, h, hl => by
    have hq := h q List.mem_cons_self
    rw [List.length_cons] at hl
    have key : ∀ R : List UInt8, passL false (q.2 ++ R) = q.2 ++ R → oneM (q.2 ++ R) = ⟨q.1.f0, q.1.f1, q.1.f2, q.2.length, true⟩ → lexN sz (passL false (q.2 ++ R)) acc = lexN sz (passL false R) (acc ++ [q.1]) := by
      intro R h1 h2
      rw [h1]
      obtain ⟨c, t, hc⟩ := List.exists_cons_of_ne_nil (tokD_ok q hq).2.2
      have e : q.2 ++ R = c :: (t ++ R) := by rw [hc]; rfl
      have hd : (q.2 ++ R).drop q.2.length = R := List.drop_left
      rw [e] at h2 hd ⊢
      rw [lexN_cons, h2, if_pos rfl, if_neg (by omega), hd]
    cases l with
    | nil =>
      rw [List.map_cons, List.map_nil, Go.Lib.join_cons]
      obtain ⟨h1, h2⟩ := tokD_end q hq
      have e : Go.Lib.joinTail [32] [] = [] := rfl
      rw [e, key [] h1 h2]
      rfl
    | cons q2 l =>
      have ih := lex_round sz (q2 :: l) (acc ++ [q.1]) (fun x hx => h x (List.mem_cons_of_mem _ hx)) (by rw [List.length_append, List.length_singleton]; omega)
      have e : Go.Lib.join ((q :: q2 :: l).map Prod.snd) [32] = q.2 ++ 32 :: Go.Lib.join ((q2 :: l).map Prod.snd) [32] := by
        rw [List.map_cons, Go.Lib.join_cons, List.map_cons, Go.Lib.join_cons]
        unfold Go.Lib.joinTail
        simp
      obtain ⟨h1, h2⟩ := tokD_sp q hq (Go.Lib.join ((q2 :: l).map Prod.snd) [32])
      rw [e, key _ h1 h2]
      have e2 : ∀ J : List UInt8, passL false (32 :: J) = passL false J := fun J => by rw [passL, if_pos (by decide)]
      rw [e2, ih, List.append_assoc]
      rfl
theorem wf_u8 {x : Int} (h : (Lit.int .u8 x).wf = true) : 0 ≤ x ∧ x < 256 := by
  simp [Lit.wf, IntKind.min, IntKind.max, IntKind.bits, IntKind.signed] at h
  omega
theorem wf_i64 {x : Int} (h : (Lit.int .i64 x).wf = true) : -9223372036854775808 ≤ x ∧ x ≤ 9223372036854775807 := by
  simp [Lit.wf, IntKind.min, IntKind.max, IntKind.bits, IntKind.signed] at h
  omega
def BytesB (l : List Int) : Prop := ∀ x ∈ l, 0 ≤ x ∧ x < 256
theorem BytesB.at_ {l : List Int} (h : BytesB l) (i : Int) : 0 ≤ rd l i ∧ rd l i < 256 := by
  unfold rd
  rw [List.getD_eq_getElem?_getD]
  by_cases hi : i.toNat < l.length
  · rw [List.getElem?_eq_getElem hi]; exact h _ (List.getElem_mem hi)
  · rw [List.getElem?_eq_none (by omega)]; decide
theorem drop_rd (l : List Int) (p : Nat) (h : p < l.length) : l.drop p = rd l p :: l.drop (p + 1) := by
  rw [List.drop_eq_getElem_cons h]
  unfold rd
  simp [List.getElem?_eq_getElem h]
theorem hk63 (n : Int) (h0 : 0 ≤ n) (h1 : n < 2 ^ 63) : IntKind.i64.wrap n = n := by
  rw [IntKind.wrap_i64]; omega
theorem or_comm64 (a b : Int) : Go.bits .or .i64 a b = Go.bits .or .i64 b a := by
  unfold Go.bits
  simp only [BitVec.or_comm]
theorem and127 (c : Int) (h0 : 0 ≤ c) (h1 : c < 256) : Go.bits .and .i64 c 127 = c % 128 := by
  have := bits_mask .i64 63 (by decide) hk63 7 (by decide) c h0 (by omega)
  simpa using this
theorem wrapU7 (i : Nat) (hi : i < 6) : IntKind.u64.wrap (wrap64 (7 * (i : Int))) = 7 * (i : Int) := by
  rw [w64 _ (by omega) (by omega)]
  simp [IntKind.wrap, IntKind.bits, IntKind.signed]
  omega
theorem p7 (i : Nat) (hi : i < 6) : (1 : Int) ≤ 2 ^ (7 * i) ∧ (2 : Int) ^ (7 * i) ≤ 34359738368 ∧ (2 : Int) ^ (7 * (i + 1)) = 128 * 2 ^ (7 * i) := by
  have : i = 0 ∨ i = 1 ∨ i = 2 ∨ i = 3 ∨ i = 4 ∨ i = 5 := by omega
  rcases this with rfl | rfl | rfl | rfl | rfl | rfl <;> decide
theorem grp (x c : Int) (i : Nat) (hi : i < 6) (hx0 : 0 ≤ x) (hx : x < 2 ^ (7 * i)) (hc0 : 0 ≤ c) (hc : c < 256) :
    Go.bits .or .i64 x (shl .i64 (Go.bits .and .i64 c 127) (IntKind.u64.wrap (wrap64 (7 * (i : Int))))) = x + (c % 128) * 2 ^ (7 * i) := by
  obtain ⟨hp1, hp2, _⟩ := p7 i hi
  rw [and127 c hc0 hc, wrapU7 i hi]
  unfold shl
  have hm : min (7 * (i : Int)).toNat (IntKind.i64.bits) = 7 * i := by show min _ 64 = _; omega
  have hb : 0 ≤ c % 128 ∧ c % 128 ≤ 127 := by omega
  have hq0 : 0 ≤ c % 128 * 2 ^ (7 * i) := Int.mul_nonneg hb.1 (by omega)
  have hq1 : c % 128 * 2 ^ (7 * i) ≤ 127 * 34359738368 := Int.mul_le_mul hb.2 hp2 (by omega) (by decide)
  rw [hm, hk63 _ hq0 (by omega), or_comm64]
  rw [bits_join .i64 63 (by decide) hk63 (7 * i) _ x hq0 (Int.mul_emod_left _ _) (by omega) hx0 hx (by omega)]
  omega
/-- What stands at a place: groups of seven bits; the number, and how many bytes. -/
def numM : Nat → Nat → Int → List Int → Option (Int × Nat)
  | 0, _, _, _ => none
  | _ + 1, _, _, [] => none
  | n + 1, i, x, c :: r => if c > 127 then numM n (i + 1) (x + (c % 128) * 2 ^ (7 * i)) r else if c = 0 ∧ 0 < i then none else some (x + (c % 128) * 2 ^ (7 * i), i + 1)
def zag (m : Int) : Int := if m % 2 = 1 then -(m / 2) - 1 else m / 2
def numFin (a : Int) : Option (Int × Nat) → Int × Int × Bool
  | none => (0, 0, false)
  | some (m, c) => if -1000000000000 ≤ zag m ∧ zag m ≤ 1000000000000 then (zag m, a + c, true) else (0, 0, false)
def getNumM (l : List Int) (a : Int) : Int × Int × Bool := if 0 ≤ a ∧ a < l.length then numFin a (numM 6 0 0 (l.drop a.toNat)) else (0, 0, false)
def Cur (b : List Int) (i : Int) : Prop := 0 ≤ i ∧ i ≤ b.length ∧ (b.length : Int) ≤ 1048576
theorem and255 (x : Int) : 0 ≤ Go.bits .and .i64 x 255 ∧ Go.bits .and .i64 x 255 ≤ 255 := by
  have h : Go.bits .and .i64 x 255 = IntKind.i64.wrap (((BitVec.ofInt 64 x) &&& (BitVec.ofInt 64 255)).toNat : Int) := rfl
  have h2 : ((BitVec.ofInt 64 x) &&& (BitVec.ofInt 64 255)).toNat ≤ 255 := by
    rw [BitVec.toNat_and]
    exact Nat.and_le_right
  rw [h, hk63 _ (by omega) (by omega)]
  omega
theorem and30 (x : Int) : 0 ≤ Go.bits .and .i64 x 1073741823 ∧ Go.bits .and .i64 x 1073741823 ≤ 1073741823 := by
  have h : Go.bits .and .i64 x 1073741823 = IntKind.i64.wrap (((BitVec.ofInt 64 x) &&& (BitVec.ofInt 64 1073741823)).toNat : Int) := rfl
  have h2 : ((BitVec.ofInt 64 x) &&& (BitVec.ofInt 64 1073741823)).toNat ≤ 1073741823 := by
    rw [BitVec.toNat_and]
    exact Nat.and_le_right
  rw [h, hk63 _ (by omega) (by omega)]
  omega
theorem spec_l1Byte_eq (b : List Int) (i h : Int) (hc : Cur b i) : ∃ v i2 h2, spec_l1Byte.f b i h = some (v, i2, h2) ∧ 0 ≤ v ∧ v ≤ 255 ∧ Cur b i2 := by
  unfold spec_l1Byte.f
  obtain ⟨h0, h1, h2⟩ := hc
  by_cases hi : i < (b.length : Int)
  · rw [if_pos hi, if_pos h0, w64 (i + 1) (by omega) (by omega)]
    exact ⟨_, _, _, rfl, (and255 _).1, (and255 _).2, by omega, by omega, h2⟩
  · rw [if_neg hi]
    exact ⟨_, _, _, rfl, (and255 _).1, (and255 _).2, h0, h1, h2⟩
theorem spec_l1Below_eq (b : List Int) (i h n : Int) (hc : Cur b i) : ∃ v i2 h2, spec_l1Below.f b i h n = some (v, i2, h2) ∧ 0 ≤ v ∧ (0 < n → v < n) ∧ (n ≤ 0 → v = 0) ∧ Cur b i2 := by
  unfold spec_l1Below.f
  by_cases h0 : n ≤ 0
  · rw [if_pos h0]
    exact ⟨0, i, h, rfl, by omega, by omega, fun _ => rfl, hc⟩
  rw [if_neg h0]
  by_cases h1 : n ≤ 256
  · rw [if_pos h1]
    obtain ⟨v, i2, h2, e, v0, v1, c2⟩ := spec_l1Byte_eq b i h hc
    rw [e]
    simp only [Option.bind_some]
    rw [if_neg (by omega)]
    refine ⟨_, _, _, rfl, ?_, fun _ => ?_, by omega, c2⟩
    · rw [Int.tmod_eq_emod_of_nonneg v0]; exact Int.emod_nonneg _ (by omega)
    · rw [Int.tmod_eq_emod_of_nonneg v0]; exact Int.emod_lt_of_pos _ (by omega)
  · rw [if_neg h1]
    obtain ⟨x, i2, h2, e, x0, x1, c2⟩ := spec_l1Byte_eq b i h hc
    rw [e]
    simp only [Option.bind_some]
    obtain ⟨y, i3, h3, e3, y0, y1, c3⟩ := spec_l1Byte_eq b i2 h2 c2
    rw [e3]
    simp only [Option.bind_some]
    obtain ⟨z, i4, h4, e4, z0, z1, c4⟩ := spec_l1Byte_eq b i3 h3 c3
    rw [e4]
    simp only [Option.bind_some]
    rw [if_neg (by omega), w64 (x * 65536) (by omega) (by omega), w64 (y * 256) (by omega) (by omega), w64 (x * 65536 + y * 256) (by omega) (by omega), w64 (x * 65536 + y * 256 + z) (by omega) (by omega)]
    refine ⟨_, _, _, rfl, ?_, fun _ => ?_, by omega, c4⟩
    · rw [Int.tmod_eq_emod_of_nonneg (by omega)]; exact Int.emod_nonneg _ (by omega)
    · rw [Int.tmod_eq_emod_of_nonneg (by omega)]; exact Int.emod_lt_of_pos _ (by omega)
theorem spec_l1Int_eq (b : List Int) (i h : Int) (l : List Int) (hl : 0 < l.length) (hc : Cur b i) : ∃ v i2 h2, spec_l1Int.f b i h l = some (v, i2, h2) ∧ v ∈ l ∧ Cur b i2 := by
  unfold spec_l1Int.f
  obtain ⟨v, i2, h2, e, v0, v1, _, c2⟩ := spec_l1Below_eq b i h l.length hc
  rw [e]
  simp only [Option.bind_some]
  have v2 := v1 (by omega)
  rw [if_pos v0, if_pos v2]
  refine ⟨_, _, _, rfl, ?_, c2⟩
  unfold rd
  have hv : v.toNat < l.length := by omega
  simp [List.getD_eq_getElem?_getD, List.getElem?_eq_getElem hv]
theorem spec_l1Str_eq (b : List Int) (i h : Int) (l : List ByteArray) (hl : 0 < l.length) (hc : Cur b i) : ∃ v i2 h2, spec_l1Str.f b i h l = some (v, i2, h2) ∧ v ∈ l ∧ Cur b i2 := by
  unfold spec_l1Str.f
  obtain ⟨v, i2, h2, e, v0, v1, _, c2⟩ := spec_l1Below_eq b i h l.length hc
  rw [e]
  simp only [Option.bind_some]
  have v2 := v1 (by omega)
  rw [if_pos v0, if_pos v2]
  refine ⟨_, _, _, rfl, ?_, c2⟩
  unfold rdOf
  have hv : v.toNat < l.length := by omega
  simp [List.getD_eq_getElem?_getD, List.getElem?_eq_getElem hv]
theorem spec_l1New_l (l : List Int) (hl : (l.length : Int) ≤ 1048576) (d : Nat) : ∀ (i : Nat) (h : Int), i + d = l.length → ∃ h2, Ev (fun k => spec_l1New.l0 k l h i) (l, 0, h2) := by
  induction d with
  | zero =>
    intro i h hi
    refine ⟨h, Ev.step (f := fun _ => some (l, 0, h)) (fun k => ?_) (Ev.now _)⟩
    simp only [spec_l1New.l0]; rw [if_neg (by omega)]
  | succ d ih =>
    intro i h hi
    by_cases h4 : (i : Int) < 4000
    · obtain ⟨h2, e⟩ := ih (i + 1) (Go.bits .and .i64 (wrap64 ((wrap64 ((wrap64 (h * 137)) + (wrap64 (rd l i)))) + 11)) 1073741823) (by omega)
      refine ⟨h2, Ev.step (fun k => ?_) e⟩
      simp only [spec_l1New.l0]; rw [if_pos (by omega), if_pos h4, if_pos (by omega), w64 ((i : Int) + 1) (by omega) (by omega)]
      rfl
    · refine ⟨h, Ev.step (f := fun _ => some (l, 0, h)) (fun k => ?_) (Ev.now _)⟩
      simp only [spec_l1New.l0]; rw [if_pos (by omega), if_neg h4]
theorem spec_l1New_ev (l : List Int) (hl : (l.length : Int) ≤ 1048576) : ∃ h, Ev (fun k => spec_l1New.f k l) (l, 0, h) := spec_l1New_l l hl l.length 0 _ (by omega)
theorem spec_l3Token_eq (b : List Int) (i h : Int) (hc : Cur b i) : ∃ (q : S42 × List UInt8) (i2 h2 : Int), q ∈ tokD ∧ spec_l3Token.f b i h = some (q.1.f0, q.1.f1, q.1.f2, i2, h2) ∧ Cur b i2 := by
  unfold spec_l3Token.f
  obtain ⟨v, i2, h2, e, _, _, _, c2⟩ := spec_l1Below_eq b i h 4 hc
  rw [e]
  simp only [Option.bind_some]
  by_cases v0 : v = 0
  · rw [if_pos v0]
    obtain ⟨x, i3, h3, e3, hm, c3⟩ := spec_l1Int_eq b i2 h2 [0, 7, 42, 1000000000000] (by simp) c2
    rw [e3]
    simp only [List.mem_cons, List.not_mem_nil, or_false] at hm
    rcases hm with rfl | rfl | rfl | rfl
    · exact ⟨(⟨1, 0, ⟨#[]⟩⟩, [48]), i3, h3, by simp [tokD], rfl, c3⟩
    · exact ⟨(⟨1, 7, ⟨#[]⟩⟩, [55]), i3, h3, by simp [tokD], rfl, c3⟩
    · exact ⟨(⟨1, 42, ⟨#[]⟩⟩, [52, 50]), i3, h3, by simp [tokD], rfl, c3⟩
    · exact ⟨(⟨1, 1000000000000, ⟨#[]⟩⟩, [49, 48, 48, 48, 48, 48, 48, 48, 48, 48, 48, 48, 48]), i3, h3, by simp [tokD], rfl, c3⟩
  rw [if_neg v0]
  by_cases v1 : v = 1
  · rw [if_pos v1]
    obtain ⟨x, i3, h3, e3, hm, c3⟩ := spec_l1Str_eq b i2 h2 [(⟨#[111, 107]⟩ : ByteArray), (⟨#[99, 97, 115, 101]⟩ : ByteArray), (⟨#[97, 95, 49]⟩ : ByteArray)] (by simp) c2
    rw [e3]
    simp only [List.mem_cons, List.not_mem_nil, or_false] at hm
    rcases hm with rfl | rfl | rfl
    · exact ⟨(⟨2, 0, ⟨#[111, 107]⟩⟩, [111, 107]), i3, h3, by simp [tokD], rfl, c3⟩
    · exact ⟨(⟨2, 0, ⟨#[99, 97, 115, 101]⟩⟩, [99, 97, 115, 101]), i3, h3, by simp [tokD], rfl, c3⟩
    · exact ⟨(⟨2, 0, ⟨#[97, 95, 49]⟩⟩, [97, 95, 49]), i3, h3, by simp [tokD], rfl, c3⟩
  rw [if_neg v1]
  by_cases v2 : v = 2
  · rw [if_pos v2]
    obtain ⟨x, i3, h3, e3, hm, c3⟩ := spec_l1Str_eq b i2 h2 [(⟨#[88]⟩ : ByteArray), (⟨#[95]⟩ : ByteArray), (⟨#[83, 116, 97, 116, 101, 49]⟩ : ByteArray), (⟨#[95, 97]⟩ : ByteArray)] (by simp) c2
    rw [e3]
    simp only [List.mem_cons, List.not_mem_nil, or_false] at hm
    rcases hm with rfl | rfl | rfl | rfl
    · exact ⟨(⟨3, 0, ⟨#[88]⟩⟩, [88]), i3, h3, by simp [tokD], rfl, c3⟩
    · exact ⟨(⟨3, 0, ⟨#[95]⟩⟩, [95]), i3, h3, by simp [tokD], rfl, c3⟩
    · exact ⟨(⟨3, 0, ⟨#[83, 116, 97, 116, 101, 49]⟩⟩, [83, 116, 97, 116, 101, 49]), i3, h3, by simp [tokD], rfl, c3⟩
    · exact ⟨(⟨3, 0, ⟨#[95, 97]⟩⟩, [95, 97]), i3, h3, by simp [tokD], rfl, c3⟩
  rw [if_neg v2]
  obtain ⟨x, i3, h3, e3, hm, c3⟩ := spec_l1Str_eq b i2 h2 [(⟨#[40]⟩ : ByteArray), (⟨#[41]⟩ : ByteArray), (⟨#[45, 62]⟩ : ByteArray), (⟨#[61, 61]⟩ : ByteArray), (⟨#[60]⟩ : ByteArray), (⟨#[45]⟩ : ByteArray), (⟨#[44]⟩ : ByteArray), (⟨#[124]⟩ : ByteArray), (⟨#[91]⟩ : ByteArray), (⟨#[125]⟩ : ByteArray)] (by simp) c2
  rw [e3]
  simp only [List.mem_cons, List.not_mem_nil, or_false] at hm
  rcases hm with rfl | rfl | rfl | rfl | rfl | rfl | rfl | rfl | rfl | rfl
  · exact ⟨(⟨4, 0, ⟨#[40]⟩⟩, [40]), i3, h3, by simp [tokD], rfl, c3⟩
  · exact ⟨(⟨4, 0, ⟨#[41]⟩⟩, [41]), i3, h3, by simp [tokD], rfl, c3⟩
  · exact ⟨(⟨4, 0, ⟨#[45, 62]⟩⟩, [45, 62]), i3, h3, by simp [tokD], rfl, c3⟩
  · exact ⟨(⟨4, 0, ⟨#[61, 61]⟩⟩, [61, 61]), i3, h3, by simp [tokD], rfl, c3⟩
  · exact ⟨(⟨4, 0, ⟨#[60]⟩⟩, [60]), i3, h3, by simp [tokD], rfl, c3⟩
  · exact ⟨(⟨4, 0, ⟨#[45]⟩⟩, [45]), i3, h3, by simp [tokD], rfl, c3⟩
  · exact ⟨(⟨4, 0, ⟨#[44]⟩⟩, [44]), i3, h3, by simp [tokD], rfl, c3⟩
  · exact ⟨(⟨4, 0, ⟨#[124]⟩⟩, [124]), i3, h3, by simp [tokD], rfl, c3⟩
  · exact ⟨(⟨4, 0, ⟨#[91]⟩⟩, [91]), i3, h3, by simp [tokD], rfl, c3⟩
  · exact ⟨(⟨4, 0, ⟨#[125]⟩⟩, [125]), i3, h3, by simp [tokD], rfl, c3⟩
theorem spec_l3Tokens_l (b : List Int) (n : Nat) : ∀ (L : List (S42 × List UInt8)) (i h : Int), (∀ q ∈ L, q ∈ tokD) → L.length + n ≤ 100 → Cur b i → ∃ (L2 : List (S42 × List UInt8)) (i2 h2 : Int), (∀ q ∈ L2, q ∈ tokD) ∧ L2.length ≤ 100 ∧ Ev (fun k => spec_l3Tokens.l0 k (L.map Prod.fst) (n : Int) b i h) (L2.map Prod.fst, i2, h2) ∧ Cur b i2 := by
  induction n with
  | zero =>
    intro L i h hL hl hc
    exact ⟨L, i, h, hL, by omega, Ev.step (f := fun _ => some (L.map Prod.fst, i, h)) (fun k => by simp only [spec_l3Tokens.l0]; rw [if_neg (by omega)]) (Ev.now _), hc⟩
  | succ n ih =>
    intro L i h hL hl hc
    obtain ⟨q, i2, h2, hq, e, c2⟩ := spec_l3Token_eq b i h hc
    obtain ⟨L2, i3, h3, hL2, hl2, e2, c3⟩ := ih (L ++ [q]) i2 h2 (by
      intro x hx
      rcases List.mem_append.1 hx with hx | hx
      · exact hL x hx
      · obtain rfl := List.mem_singleton.1 hx; exact hq) (by rw [List.length_append, List.length_singleton]; omega) c2
    refine ⟨L2, i3, h3, hL2, hl2, Ev.step (fun k => ?_) e2, c3⟩
    simp only [spec_l3Tokens.l0]
    rw [if_pos (by omega), e]
    simp only [Option.bind_some]
    rw [if_pos (by rw [List.length_map]; omega), w64 _ (by omega) (by omega), List.map_append]
    have e3 : ((n + 1 : Nat) : Int) - 1 = (n : Int) := by omega
    rw [e3]
    rfl
theorem spec_l3Tokens_ev (b : List Int) (i h : Int) (n : Int) (hn : 0 ≤ n ∧ n ≤ 50) (hc : Cur b i) : ∃ (L : List (S42 × List UInt8)) (i2 h2 : Int), (∀ q ∈ L, q ∈ tokD) ∧ L.length ≤ 100 ∧ Ev (fun k => spec_l3Tokens.f k b i h n) (L.map Prod.fst, i2, h2) ∧ Cur b i2 := by
  unfold spec_l3Tokens.f
  obtain ⟨v, i2, h2, e, v0, v1, v2, c2⟩ := spec_l1Below_eq b i h n hc
  obtain ⟨m, rfl⟩ : ∃ m : Nat, v = (m : Int) := ⟨v.toNat, by omega⟩
  have hm : m ≤ 100 := by
    by_cases hp : 0 < n
    · have := v1 hp; omega
    · have := v2 (by omega); omega
  obtain ⟨L, i3, h3, hL, hl, e2, c3⟩ := spec_l3Tokens_l b m [] i2 h2 (fun q hq => by cases hq) (by simp; omega) c2
  exact ⟨L, i3, h3, hL, hl, Ev.bind (ev_of e) e2, c3⟩
theorem spec_l1In_eq (a b c : Int) : spec_l1In.f a b c = some (decide (b ≤ a) && decide (a ≤ c)) := by
  unfold spec_l1In.f
  by_cases h : b ≤ a <;> simp [h]
theorem spec_AtomOk_l (s : ByteArray) (hs : s.size ≤ 140737488351232) (d : Nat) : ∀ i : Nat, i + d = s.size → Ev (fun k => spec_AtomOk.l0 k s i) (atomFrom s i && (decide (1 ≤ (s.size : Int)) && decide ((s.size : Int) ≤ 20))) := by
  induction d with
  | zero =>
    intro i hi
    refine Ev.step (f := fun _ => some (decide (1 ≤ (s.size : Int)) && decide ((s.size : Int) ≤ 20))) (fun k => ?_) (ev_cast ?_ (Ev.now _))
    · simp only [spec_AtomOk.l0]
      rw [if_neg (by omega), spec_l1In_eq]; rfl
    · rw [atomFrom_end s i (by omega)]; rfl
  | succ d ih =>
    intro i hi
    have hlt : i < s.size := by omega
    have hn := ih (i + 1) (by omega)
    rw [atomFrom_step s i hlt]
    by_cases h1 : lowB (bt s i) = true
    · refine Ev.step (fun k => ?_) (ev_cast ?_ hn)
      · simp only [spec_AtomOk.l0]
        rw [if_pos (by omega), if_pos (by omega), wbt, spec_l1In_eq]
        simp only [Option.bind_some]
        unfold lowB at h1
        rw [if_pos h1, w64 _ (by omega) (by omega)]
        rfl
      · rw [h1]; rfl
    · have h1' : lowB (bt s i) = false := by simpa using h1
      by_cases h0 : i = 0
      · refine Ev.step (f := fun _ => some false) (fun k => ?_) (ev_cast ?_ (Ev.now _))
        · simp only [spec_AtomOk.l0]
          rw [if_pos (by omega), if_pos (by omega), wbt, spec_l1In_eq]
          simp only [Option.bind_some]
          unfold lowB at h1
          rw [if_neg h1, if_pos (by omega)]
        · rw [h1']; simp [h0]
      · by_cases h2 : digB (bt s i) = true
        · refine Ev.step (fun k => ?_) (ev_cast ?_ hn)
          · simp only [spec_AtomOk.l0]
            rw [if_pos (by omega), if_pos (by omega), wbt, spec_l1In_eq]
            simp only [Option.bind_some]
            unfold lowB at h1; unfold digB at h2
            rw [if_neg h1, if_neg (by omega), spec_l1In_eq]
            simp only [Option.bind_some]
            rw [if_pos h2, w64 _ (by omega) (by omega)]
            rfl
          · rw [h2]; simp [h0]
        · have h2' : digB (bt s i) = false := by simpa using h2
          by_cases h3 : bt s i = 95
          · refine Ev.step (fun k => ?_) (ev_cast ?_ hn)
            · simp only [spec_AtomOk.l0]
              rw [if_pos (by omega), if_pos (by omega), wbt, spec_l1In_eq]
              simp only [Option.bind_some]
              unfold lowB at h1; unfold digB at h2
              rw [if_neg h1, if_neg (by omega), spec_l1In_eq]
              simp only [Option.bind_some]
              rw [if_neg h2, if_pos h3, w64 _ (by omega) (by omega)]
              rfl
            · simp [h0, h3]
          · refine Ev.step (f := fun _ => some false) (fun k => ?_) (ev_cast ?_ (Ev.now _))
            · simp only [spec_AtomOk.l0]
              rw [if_pos (by omega), if_pos (by omega), wbt, spec_l1In_eq]
              simp only [Option.bind_some]
              unfold lowB at h1; unfold digB at h2
              rw [if_neg h1, if_neg (by omega), spec_l1In_eq]
              simp only [Option.bind_some]
              rw [if_neg h2, if_neg h3]
            · rw [h1', h2']; simp [h3]
theorem spec_AtomOk_ev (s : ByteArray) (hs : s.size ≤ 140737488351232) : Ev (fun k => spec_AtomOk.f k s) (atomOkM s) := spec_AtomOk_l s hs s.size 0 (by omega)
theorem spec_l3Large_eq (c : Int) (h0 : 0 ≤ c) (h1 : c ≤ 255) : spec_l3Large.f c = some (largeB c) := by
  unfold spec_l3Large.f largeB
  rw [w64 _ (by omega) (by omega), spec_l1In_eq]
  simp only [Option.bind_some]
  cases h : (decide (65 ≤ c) && decide (c ≤ 90)) with
  | true => rw [if_pos rfl]; rfl
  | false => rw [if_neg (by decide), Bool.false_or]; rfl
theorem spec_l3Small_eq (c : Int) (h0 : 0 ≤ c) (h1 : c ≤ 255) : spec_l3Small.f c = some (lowB c) := by
  unfold spec_l3Small.f lowB
  rw [w64 _ (by omega) (by omega), spec_l1In_eq]; rfl
theorem spec_l3Digit_eq (c : Int) (h0 : 0 ≤ c) (h1 : c ≤ 255) : spec_l3Digit.f c = some (digB c) := by
  unfold spec_l3Digit.f digB
  rw [w64 _ (by omega) (by omega), spec_l1In_eq]; rfl
theorem spec_l3VarOk_ev (s : ByteArray) (hs : s.size ≤ 140737488351232) : Ev (fun k => spec_l3VarOk.f k s) (varOkM s) := by
  unfold spec_l3VarOk.f varOkM
  refine all_loopB (fun k i => spec_l3VarOk.l0 k s i) (varP s) s.size (in20 s) ?_ ?_ s.size 0 (by omega)
  · intro i hi r hr hn
    have hb := bt_range s i
    have e1 := spec_l3Large_eq (bt s i) hb.1 hb.2
    have e2 := spec_l3Small_eq (bt s i) hb.1 hb.2
    have e3 := spec_l3Digit_eq (bt s i) hb.1 hb.2
    have hw : wrap64 ((i : Int) + 1) = ((i + 1 : Nat) : Int) := by rw [w64 _ (by omega) (by omega)]; rfl
    unfold varP at hr hn
    cases g1 : largeB (bt s i) with
    | true =>
      refine Ev.step (fun k => ?_) (hr (by rw [g1]; rfl))
      simp only [spec_l3VarOk.l0]
      rw [if_pos (by omega), if_pos (by omega), e1, g1, hw]
      rfl
    | false =>
      rw [g1] at hr hn
      by_cases hz : i = 0
      · refine Ev.step (f := fun _ => some false) (fun k => ?_) (ev_cast (hn (by simp [hz])).symm (Ev.now _))
        simp only [spec_l3VarOk.l0]
        rw [if_pos (by omega), if_pos (by omega), e1, g1]
        simp only [Option.bind_some]
        rw [if_neg (by decide), if_pos (by omega)]
      · rw [decide_eq_false hz] at hr hn
        cases g2 : lowB (bt s i) with
        | true =>
          refine Ev.step (fun k => ?_) (hr (by rw [g2]; rfl))
          simp only [spec_l3VarOk.l0]
          rw [if_pos (by omega), if_pos (by omega), e1, g1]
          simp only [Option.bind_some]
          rw [if_neg (by decide), if_neg (by omega), e2, g2, hw]
          rfl
        | false =>
          rw [g2] at hr hn
          cases g3 : digB (bt s i) with
          | true =>
            refine Ev.step (fun k => ?_) (hr (by rw [g3]; rfl))
            simp only [spec_l3VarOk.l0]
            rw [if_pos (by omega), if_pos (by omega), e1, g1]
            simp only [Option.bind_some]
            rw [if_neg (by decide), if_neg (by omega), e2, g2]
            simp only [Option.bind_some]
            rw [if_neg (by decide), e3, g3, hw]
            rfl
          | false =>
            refine Ev.step (f := fun _ => some false) (fun k => ?_) (ev_cast (hn (by rw [g3]; rfl)).symm (Ev.now _))
            simp only [spec_l3VarOk.l0]
            rw [if_pos (by omega), if_pos (by omega), e1, g1]
            simp only [Option.bind_some]
            rw [if_neg (by decide), if_neg (by omega), e2, g2]
            simp only [Option.bind_some]
            rw [if_neg (by decide), e3, g3]
            rfl
  · refine Ev.step (f := fun _ => some (in20 s)) (fun k => ?_) (Ev.now _)
    simp only [spec_l3VarOk.l0]
    rw [if_neg (by omega), spec_l1In_eq]
    rfl
theorem spec_l3MarkOk_l (s : ByteArray) (d : Nat) : ∀ i : Nat, i + d = 14 → Ev (fun k => spec_l3MarkOk.l0 k s i) ((onesL.drop i).any (fun c => decide (s.data.toList = [c]))) := by
  induction d with
  | zero =>
    intro i hi
    have e : i = 14 := by omega
    subst e
    refine Ev.step (f := fun _ => some false) (fun k => ?_) (Ev.now _)
    simp only [spec_l3MarkOk.l0]; rw [if_neg (by omega)]
  | succ d ih =>
    intro i hi
    have hlt : i < onesL.length := by show i < 14; omega
    have hx := ones_at i (by omega)
    have hg : onesL.getD i 0 = onesL[i] := by simp [List.getD_eq_getElem?_getD, List.getElem?_eq_getElem hlt]
    rw [hg] at hx
    have hw : wrap64 ((i : Int) + 1) = ((i + 1 : Nat) : Int) := by rw [w64 _ (by omega) (by omega)]; rfl
    rw [List.drop_eq_getElem_cons hlt, List.any_cons]
    by_cases h : s.data.toList = [onesL[i]]
    · refine Ev.step (f := fun _ => some true) (fun k => ?_) (ev_cast (by rw [decide_eq_true h]; rfl) (Ev.now _))
      simp only [spec_l3MarkOk.l0]
      rw [if_pos (by omega), if_pos (by omega), hw, if_pos (by omega), if_pos (by omega), Int.toNat_natCast, Int.toNat_natCast, if_pos (by rw [tl_inj, hx]; exact h)]
    · refine Ev.step (fun k => ?_) (ev_cast (by rw [decide_eq_false h]; rfl) (ih (i + 1) (by omega)))
      simp only [spec_l3MarkOk.l0]
      rw [if_pos (by omega), if_pos (by omega), hw, if_pos (by omega), if_pos (by omega), Int.toNat_natCast, Int.toNat_natCast, if_neg (by rw [tl_inj, hx]; exact h)]
theorem spec_l3MarkOk_ev (s : ByteArray) : Ev (fun k => spec_l3MarkOk.f k s) (markOkL s.data.toList) := by
  unfold spec_l3MarkOk.f markOkL
  by_cases h1 : s.toList = ([45, 62] : List UInt8)
  · refine ev_pos h1 (Ev.step (f := fun _ => some true) (fun k => by simp only [spec_l3MarkOk.j0]; rfl) (ev_cast ?_ (Ev.now _)))
    rw [Go.Lib.toList_data] at h1
    rw [decide_eq_true h1]; rfl
  · refine ev_neg h1 ?_
    have h1' : ¬ s.data.toList = [45, 62] := by rwa [Go.Lib.toList_data] at h1
    rw [decide_eq_false h1', Bool.false_or]
    by_cases h2 : s.data.toList = [61, 61]
    · refine Ev.step (f := fun _ => some true) (fun k => ?_) (ev_cast (by rw [decide_eq_true h2]; rfl) (Ev.now _))
      simp only [spec_l3MarkOk.j0]
      rw [if_pos (by rw [Go.Lib.toList_data, h2]; rfl)]
    · refine Ev.step (fun k => ?_) (ev_cast (by rw [decide_eq_false h2, Bool.false_or]; rfl) (spec_l3MarkOk_l s 14 0 (by omega)))
      simp only [spec_l3MarkOk.j0]
      rw [if_neg (by rw [Go.Lib.toList_data]; simpa using h2)]
      rfl
theorem spec_TokenOk_ev (a b : Int) (s : ByteArray) (hs : s.size ≤ 140737488351232) : Ev (fun k => spec_TokenOk.f k a b s) (tokOkM a b s) := by
  unfold spec_TokenOk.f tokOkM
  by_cases h1 : a = 1
  · rw [if_pos h1]
    refine ev_pos h1 (ev_of ?_)
    rw [spec_l1In_eq, empty_beq]
    simp only [Option.bind_some]
    cases (decide (0 ≤ b) && decide (b ≤ 1000000000000)) <;> rfl
  rw [if_neg h1]
  refine ev_neg h1 ?_
  have hz : (b == 0) = decide (b = 0) := rfl
  by_cases h2 : a = 2
  · rw [if_pos h2]
    refine ev_pos h2 (Ev.bind (spec_AtomOk_ev s hs) ?_)
    cases atomOkM s with
    | true => exact ev_pos rfl (ev_cast (by rw [Bool.true_and]; rfl) (Ev.now _))
    | false => exact ev_neg (by decide) (Ev.now _)
  rw [if_neg h2]
  refine ev_neg h2 ?_
  by_cases h3 : a = 3
  · rw [if_pos h3]
    refine ev_pos h3 (Ev.bind (spec_l3VarOk_ev s hs) ?_)
    cases varOkM s with
    | true => exact ev_pos rfl (ev_cast (by rw [Bool.true_and]; rfl) (Ev.now _))
    | false => exact ev_neg (by decide) (Ev.now _)
  rw [if_neg h3]
  refine ev_neg h3 ?_
  by_cases h4 : a = 4
  · rw [if_pos h4]
    refine ev_pos h4 (Ev.bind (spec_l3MarkOk_ev s) ?_)
    cases markOkL s.data.toList with
    | true => exact ev_pos rfl (ev_cast (by rw [Bool.true_and]; rfl) (Ev.now _))
    | false => exact ev_neg (by decide) (Ev.now _)
  rw [if_neg h4]
  exact ev_neg h4 (Ev.now _)
theorem spec_l2Int_pos (u : Nat) : (u : Int) ≤ 9000000000000000000 → Ev (fun k => spec_l2Int.f k (u : Int)) ⟨(Go.Lib.decDigits u).toArray⟩ := by
  induction u using Nat.strongRecOn with
  | _ u ih =>
  intro hu
  have h0 : ¬ ((u : Int) < 0) := by omega
  by_cases h : u < 10
  · have h10 : (u : Int) < 10 := by omega
    refine Ev.step (f := fun _ => some (⟨(Go.Lib.decDigits u).toArray⟩ : ByteArray)) (fun k => ?_) (Ev.now _)
    simp only [spec_l2Int.f]
    rw [if_neg h0, if_pos h10, w64 _ (by omega) (by omega), dig_num u h, Go.Lib.decDigits_one h]
  · have h10 : ¬ (u : Int) < 10 := by omega
    have hd : Int.tdiv (u : Int) 10 = ((u / 10 : Nat) : Int) := by
      rw [Int.tdiv_eq_ediv_of_nonneg (by omega)]; omega
    have hm : Int.tmod (u : Int) 10 = ((u % 10 : Nat) : Int) := by
      rw [Int.tmod_eq_emod_of_nonneg (by omega)]; omega
    have e1 := ih (u / 10) (by omega) (by omega)
    have hl : (Go.Lib.decDigits (u / 10)).length ≤ 9223372036854775000 := by
      have : ∀ v : Nat, (Go.Lib.decDigits v).length ≤ v + 1 := by
        intro v
        induction v using Nat.strongRecOn with
        | _ v ihv =>
          by_cases hv : v < 10
          · rw [Go.Lib.decDigits_one hv]; simp
          · rw [Go.Lib.decDigits, dif_neg hv]
            have := ihv (v / 10) (by omega)
            simp only [List.length_append, List.length_singleton]
            omega
      have := this (u / 10)
      omega
    refine Ev.step (f := fun k => (spec_l2Int.f k ((u / 10 : Nat) : Int)).bind fun t => some (t ++ (⟨[UInt8.ofNat (48 + u % 10)].toArray⟩ : ByteArray))) (fun k => ?_) (Ev.bind e1 (ev_cast ?_ (Ev.now _)))
    · simp only [spec_l2Int.f]
      rw [if_neg h0, if_neg h10, hd, hm, w64 _ (by omega) (by omega), w64 _ (by omega) (by omega)]
      simp only [Option.bind_some]
      rw [dig_num (u % 10) (by omega)]
      cases hk : spec_l2Int.f k ((u / 10 : Nat) : Int) with
      | none => rfl
      | some t =>
        simp only [Option.bind_some]
        have ht : t = ⟨(Go.Lib.decDigits (u / 10)).toArray⟩ := ev_uniq (Ev.of (g := fun k => spec_l2Int.f k ((u / 10 : Nat) : Int)) (fun k => spec_l2Int.mono _ k) hk) e1
        rw [if_pos]
        rw [ht, ba_size, ba_size]
        simp
        omega
    · rw [ba_app]
      conv => rhs; rw [Go.Lib.decDigits, dif_neg h]
theorem spec_l2Int_ev (n : Int) (h0 : -9000000000000000000 ≤ n) (h1 : n ≤ 9000000000000000000) : Ev (fun k => spec_l2Int.f k n) ⟨(Go.Lib.itoa n).toArray⟩ := by
  by_cases h : n < 0
  · obtain ⟨u, rfl⟩ : ∃ u : Nat, n = -(u : Int) := ⟨n.natAbs, by omega⟩
    have e1 := spec_l2Int_pos u (by omega)
    have hl : (Go.Lib.decDigits u).length ≤ 9223372036854775000 := by
      have : ∀ v : Nat, (Go.Lib.decDigits v).length ≤ v + 1 := by
        intro v
        induction v using Nat.strongRecOn with
        | _ v ihv =>
          by_cases hv : v < 10
          · rw [Go.Lib.decDigits_one hv]; simp
          · rw [Go.Lib.decDigits, dif_neg hv]
            have := ihv (v / 10) (by omega)
            simp only [List.length_append, List.length_singleton]
            omega
      have := this u
      omega
    refine Ev.step (f := fun k => (spec_l2Int.f k (u : Int)).bind fun t => some ((⟨#[45]⟩ : ByteArray) ++ t)) (fun k => ?_) (Ev.bind e1 (ev_cast ?_ (Ev.now _)))
    · simp only [spec_l2Int.f]
      rw [if_pos h, w64 _ (by omega) (by omega), Int.neg_neg]
      cases hk : spec_l2Int.f k (u : Int) with
      | none => rfl
      | some t =>
        simp only [Option.bind_some]
        have ht : t = ⟨(Go.Lib.decDigits u).toArray⟩ := ev_uniq (Ev.of (g := fun k => spec_l2Int.f k (u : Int)) (fun k => spec_l2Int.mono _ k) hk) e1
        rw [if_pos]
        rw [ht, ba_size]
        omega
    · have e2 : (⟨#[45]⟩ : ByteArray) = ⟨[45].toArray⟩ := rfl
      rw [e2, ba_app, Go.Lib.itoa_neg u (by omega)]
      rfl
  · obtain ⟨u, rfl⟩ : ∃ u : Nat, n = (u : Int) := ⟨n.toNat, by omega⟩
    rw [Go.Lib.itoa_nonneg]
    exact spec_l2Int_pos u h1
theorem spec_TokenText_ev (a b : Int) (s : ByteArray) (hs : s.size ≤ 140737488351232) : Ev (fun k => spec_TokenText.f k a b s) (tokTextM a b s) := by
  unfold spec_TokenText.f
  refine Ev.bind (spec_TokenOk_ev a b s hs) ?_
  by_cases h : tokOkM a b s = true
  · refine ev_pos h ?_
    unfold spec_l3Text.f
    by_cases h1 : a = 1
    · obtain ⟨hb0, hb1⟩ := tokOk_int h h1
      exact ev_cast (tokTextM_int h h1) (Ev.bind (ev_pos h1 (Ev.bind (spec_l2Int_ev b (by omega) (by omega)) (Ev.now _))) (Ev.now _))
    · exact ev_cast (tokTextM_str h h1) (Ev.bind (ev_neg h1 (Ev.now _)) (Ev.now _))
  · exact ev_cast (tokTextM_no h) (ev_neg h (Ev.now _))
theorem spec_join_loop (l : List S42) (hl : (l.length : Int) ≤ 1048576) (hb : (sumB tkB l : Int) ≤ 1048576) (d : Nat) : ∀ (i : Nat) (acc : ByteArray), 0 < i → i + d = l.length → acc.size + sumB (fun x => 1 + (tkT x).size) (l.drop i) ≤ 100000000 →
    Ev (fun k => spec_JoinTokens.l0 k l acc i) ⟨(acc.data.toList ++ Go.Lib.joinTail [32] ((l.drop i).map fun x => (tkT x).data.toList)).toArray⟩ := by
  induction d with
  | zero =>
    intro i acc hi0 hi hs
    refine Ev.step (f := fun _ => some acc) (fun k => ?_) (ev_cast ?_ (Ev.now _))
    · simp only [spec_JoinTokens.l0]; rw [if_neg (by omega)]
    · rw [List.drop_eq_nil_of_le (by omega)]
      simp [Go.Lib.joinTail]
  | succ d ih =>
    intro i acc hi0 hi hs
    have hlt : i < l.length := by omega
    rw [sumB_drop _ l i hlt] at hs
    have hm : l[i].f2.size ≤ sumB tkB l := sumB_mem tkB l _ (List.getElem_mem hlt)
    have hz : (tkT l[i]).size ≤ 3000000 := by
      have := tkT_size l[i]; omega
    have h1 : (acc ++ (⟨#[32]⟩ : ByteArray)).size = acc.size + 1 := by rw [ByteArray.size_append]; rfl
    refine Ev.step (f := fun k => (spec_TokenText.f k l[i].f0 l[i].f1 l[i].f2).bind fun t133 => (if (acc ++ (⟨#[32]⟩ : ByteArray)).size + t133.size ≤ 9223372036854775807 then (spec_JoinTokens.l0 k l ((acc ++ (⟨#[32]⟩ : ByteArray)) ++ t133) (wrap64 ((i : Int) + 1))) else (none))) (fun k => ?_) (Ev.bind (spec_TokenText_ev l[i].f0 l[i].f1 l[i].f2 (by omega)) (ev_pos (by rw [h1]; show _ + (tkT l[i]).size ≤ _; omega) ?_))
    · simp only [spec_JoinTokens.l0]
      rw [if_pos (by omega), if_pos (by omega), if_pos (by omega), if_pos (by omega), rd_it l i hlt]
    · rw [w64 _ (by omega) (by omega)]
      refine ev_cast ?_ (ih (i + 1) ((acc ++ (⟨#[32]⟩ : ByteArray)) ++ tkT l[i]) (by omega) (by omega) (by rw [ByteArray.size_append, h1]; omega))
      rw [List.drop_eq_getElem_cons hlt, List.map_cons]
      simp only [Go.Lib.joinTail, List.map_cons, List.flatten_cons]
      rw [ba_cat, ba_cat, sp32]
      simp
theorem spec_JoinTokens_ev (l : List S42) (hl : (l.length : Int) ≤ 1048576) (hb : (sumB tkB l : Int) ≤ 1048576) : Ev (fun k => spec_JoinTokens.f k l) (joinT l) := by
  unfold spec_JoinTokens.f
  cases l with
  | nil =>
    refine Ev.step (f := fun _ => some (⟨#[]⟩ : ByteArray)) (fun k => ?_) (Ev.now _)
    simp only [spec_JoinTokens.l0]; rw [if_neg (by simp)]
  | cons x r =>
    have hs := tk_sum (x :: r) hl hb
    rw [sumB] at hs
    have hm : x.f2.size ≤ sumB tkB (x :: r) := sumB_mem tkB (x :: r) x List.mem_cons_self
    have e0 : (⟨#[]⟩ : ByteArray).size = 0 := rfl
    refine Ev.step (f := fun k => (spec_TokenText.f k x.f0 x.f1 x.f2).bind fun t135 => (if (⟨#[]⟩ : ByteArray).size + t135.size ≤ 9223372036854775807 then (spec_JoinTokens.l0 k (x :: r) ((⟨#[]⟩ : ByteArray) ++ t135) (wrap64 (0 + 1))) else (none))) (fun k => ?_) (Ev.bind (spec_TokenText_ev x.f0 x.f1 x.f2 (by omega)) (ev_pos (by rw [e0]; show _ + (tkT x).size ≤ _; omega) ?_))
    · simp only [spec_JoinTokens.l0]
      rw [if_pos (by simp only [List.length_cons]; omega), if_neg (by omega), if_pos (by omega)]
      rfl
    · rw [w64 _ (by omega) (by omega)]
      have q := spec_join_loop (x :: r) hl hb r.length 1 ((⟨#[]⟩ : ByteArray) ++ tkT x) (by omega) (by rw [List.length_cons]; omega) (by rw [ByteArray.size_append, e0]; show _ + sumB _ r ≤ _; omega)
      refine ev_cast ?_ q
      unfold joinT
      rw [List.map_cons, join_cons, ba_cat]
      rfl
theorem impl_inRange_eq (a b c : Int) : impl_inRange.f a b c = some (decide (b ≤ a) && decide (a ≤ c)) := by
  unfold impl_inRange.f
  by_cases h : b ≤ a <;> simp [h]
theorem impl_isSmall_eq (c : Int) : impl_isSmall.f c = some (lowB c) := by
  unfold impl_isSmall.f lowB
  by_cases h : 97 ≤ c <;> simp [h]
theorem impl_isFigure_eq (c : Int) : impl_isFigure.f c = some (digB c) := by
  unfold impl_isFigure.f digB
  by_cases h : 48 ≤ c <;> simp [h]
theorem impl_AtomOk_l (s : ByteArray) (hs : s.size ≤ 140737488351232) (d : Nat) : ∀ i : Nat, i + d = s.size → Ev (fun k => impl_AtomOk.l0 k s i) (atomFrom s i && (decide (1 ≤ (s.size : Int)) && decide ((s.size : Int) ≤ 20))) := by
  induction d with
  | zero =>
    intro i hi
    refine Ev.step (f := fun _ => some (decide (1 ≤ (s.size : Int)) && decide ((s.size : Int) ≤ 20))) (fun k => ?_) (ev_cast ?_ (Ev.now _))
    · simp only [impl_AtomOk.l0]
      rw [if_neg (by omega), impl_inRange_eq]; rfl
    · rw [atomFrom_end s i (by omega)]; rfl
  | succ d ih =>
    intro i hi
    have hlt : i < s.size := by omega
    have hn := ih (i + 1) (by omega)
    rw [atomFrom_step s i hlt]
    by_cases h1 : lowB (bt s i) = true
    · refine Ev.step (fun k => ?_) (ev_cast ?_ hn)
      · simp only [impl_AtomOk.l0]
        rw [if_pos (by omega), if_pos (by omega), impl_isSmall_eq]
        simp only [Option.bind_some]
        rw [if_pos h1, w64 _ (by omega) (by omega)]
        rfl
      · rw [h1]; rfl
    · have h1' : lowB (bt s i) = false := by simpa using h1
      by_cases h0 : i = 0
      · refine Ev.step (f := fun _ => some false) (fun k => ?_) (ev_cast ?_ (Ev.now _))
        · simp only [impl_AtomOk.l0]
          rw [if_pos (by omega), if_pos (by omega), impl_isSmall_eq]
          simp only [Option.bind_some]
          rw [if_neg h1, if_pos (by omega)]
        · rw [h1']; simp [h0]
      · by_cases h2 : digB (bt s i) = true
        · refine Ev.step (fun k => ?_) (ev_cast ?_ hn)
          · simp only [impl_AtomOk.l0]
            rw [if_pos (by omega), if_pos (by omega), impl_isSmall_eq]
            simp only [Option.bind_some]
            rw [if_neg h1, if_neg (by omega), impl_isFigure_eq]
            simp only [Option.bind_some]
            rw [if_pos h2, w64 _ (by omega) (by omega)]
            rfl
          · rw [h2]; simp [h0]
        · have h2' : digB (bt s i) = false := by simpa using h2
          by_cases h3 : bt s i = 95
          · refine Ev.step (fun k => ?_) (ev_cast ?_ hn)
            · simp only [impl_AtomOk.l0]
              rw [if_pos (by omega), if_pos (by omega), impl_isSmall_eq]
              simp only [Option.bind_some]
              rw [if_neg h1, if_neg (by omega), impl_isFigure_eq]
              simp only [Option.bind_some]
              rw [if_neg h2, if_pos h3, w64 _ (by omega) (by omega)]
              rfl
            · simp [h0, h3]
          · refine Ev.step (f := fun _ => some false) (fun k => ?_) (ev_cast ?_ (Ev.now _))
            · simp only [impl_AtomOk.l0]
              rw [if_pos (by omega), if_pos (by omega), impl_isSmall_eq]
              simp only [Option.bind_some]
              rw [if_neg h1, if_neg (by omega), impl_isFigure_eq]
              simp only [Option.bind_some]
              rw [if_neg h2, if_neg h3]
            · rw [h1', h2']; simp [h3]
theorem impl_AtomOk_ev (s : ByteArray) (hs : s.size ≤ 140737488351232) : Ev (fun k => impl_AtomOk.f k s) (atomOkM s) := impl_AtomOk_l s hs s.size 0 (by omega)
theorem impl_isLarge_eq (c : Int) : impl_isLarge.f c = some (largeB c) := by
  unfold impl_isLarge.f largeB
  by_cases h : c ≥ 65
  · rw [if_pos h]
    by_cases h2 : c ≤ 90
    · rw [if_pos h2]; simp [h2]; omega
    · rw [if_neg h2]; simp [h2]; rfl
  · rw [if_neg h]; simp; rw [decide_eq_false (by omega)]; simp; rfl
theorem impl_isWord_eq (c : Int) : impl_isWordByte.f c = some (lowB c || (largeB c || digB c)) := by
  unfold impl_isWordByte.f
  rw [impl_isSmall_eq, impl_isLarge_eq, impl_isFigure_eq]
  cases lowB c <;> cases largeB c <;> rfl
theorem impl_varOk_ev (s : ByteArray) (hs : s.size ≤ 140737488351232) : Ev (fun k => impl_varOk.f k s) (varOkM s) := by
  rw [← varOk_same]
  unfold impl_varOk.f
  refine all_loopB (fun k i => impl_varOk.l0 k s i) (varQ s) s.size (in20 s && largeB (bt s 0)) ?_ ?_ s.size 0 (by omega)
  · intro i hi r hr hn
    have e1 := impl_isWord_eq (bt s i)
    have hw : wrap64 ((i : Int) + 1) = ((i + 1 : Nat) : Int) := by rw [w64 _ (by omega) (by omega)]; rfl
    have hq : varQ s i = (lowB (bt s i) || (largeB (bt s i) || digB (bt s i))) := rfl
    rw [← hq] at e1
    cases g : varQ s i with
    | true =>
      refine Ev.step (fun k => ?_) (hr g)
      simp only [impl_varOk.l0]
      rw [if_pos (by omega), if_pos (by omega), e1, g, hw]
      rfl
    | false =>
      refine Ev.step (f := fun _ => some false) (fun k => ?_) (ev_cast (hn g).symm (Ev.now _))
      simp only [impl_varOk.l0]
      rw [if_pos (by omega), if_pos (by omega), e1, g]
      rfl
  · refine Ev.step (f := fun _ => some (in20 s && largeB (bt s 0))) (fun k => ?_) (Ev.now _)
    simp only [impl_varOk.l0]
    rw [if_neg (by omega), impl_inRange_eq, impl_isLarge_eq]
    have hi : (decide (1 ≤ (s.size : Int)) && decide ((s.size : Int) ≤ 20)) = in20 s := rfl
    rw [hi]
    simp only [Option.bind_some]
    cases h : in20 s with
    | true =>
      unfold in20 at h
      rw [Bool.and_eq_true, decide_eq_true_eq, decide_eq_true_eq] at h
      rw [if_pos rfl, if_pos (by omega)]; rfl
    | false => rw [if_neg (by decide)]; rfl
theorem hasPrefix2 (s : ByteArray) (a b : UInt8) : strings_HasPrefix.f s (⟨#[a, b]⟩ : ByteArray) = some (decide (s.data.toList.take 2 = [a, b])) := by
  unfold strings_HasPrefix.f stringslite_HasPrefix.f
  have hsz : ((⟨#[a, b]⟩ : ByteArray).size : Int) = 2 := rfl
  rw [hsz]
  by_cases h : (s.size : Int) ≥ 2
  · rw [if_pos h, if_pos (by omega), if_pos (by omega)]
    have e : ((s.extract 0 (2 : Int).toNat).toList == (⟨#[a, b]⟩ : ByteArray).toList) = decide (s.data.toList.take 2 = [a, b]) := by
      rw [Go.Lib.toList_data, Go.Lib.toList_data, tlx, Bool.eq_iff_iff, beq_iff_eq, decide_eq_true_eq]
      exact Iff.rfl
    rw [e]; rfl
  · rw [if_neg h]
    have hl : s.data.toList.length < 2 := by rw [← size_len]; omega
    have : ¬ s.data.toList.take 2 = [a, b] := by
      intro hq
      have := congrArg List.length hq
      rw [List.length_take] at this
      simp at this
      omega
    rw [decide_eq_false this]; rfl
theorem impl_markOf_ev (s : ByteArray) (c : UInt8) (l : List UInt8) (hs : s.data.toList = c :: l) : ∃ r : ByteArray, Ev (fun k => impl_markOf.f k s) r ∧ (r.toList == s.toList) = markOkL (c :: l) := by
  unfold impl_markOf.f
  have h0 : 0 < s.size := by rw [size_len, hs]; simp
  have e1 := hasPrefix2 s 45 62
  have e2 := hasPrefix2 s 61 61
  have hb := bt0 s c l hs
  rw [hs] at e1 e2
  by_cases p1 : (c :: l).take 2 = [45, 62]
  · refine ⟨⟨#[45, 62]⟩, Ev.step (f := fun _ => some ⟨#[45, 62]⟩) (fun k => ?_) (Ev.now _), ?_⟩
    · simp only [impl_markOf.l0]
      rw [if_pos (by omega), if_pos trivial, e1, decide_eq_true p1]
      rfl
    · rw [Go.Lib.toList_data, Go.Lib.toList_data, hs]
      unfold markOkL
      cases l with
      | nil => simp at p1
      | cons d l =>
        simp only [List.take_succ_cons, List.take_zero, List.cons.injEq, and_true] at p1
        obtain ⟨rfl, rfl⟩ := p1
        cases l with
        | nil => decide
        | cons e l => simp [onesL]
  · by_cases p2 : (c :: l).take 2 = [61, 61]
    · refine ⟨⟨#[61, 61]⟩, Ev.step (f := fun k => impl_markOf.l0 k s (0 + 1)) (fun k => ?_) (Ev.step (f := fun _ => some ⟨#[61, 61]⟩) (fun k => ?_) (Ev.now _)), ?_⟩
      · simp only [impl_markOf.l0]
        rw [if_pos (by omega), if_pos trivial, e1, decide_eq_false p1]
        rfl
      · simp only [impl_markOf.l0]
        rw [if_pos (by omega), if_neg (by omega), if_pos (by omega), e2, decide_eq_true p2]
        rfl
      · rw [Go.Lib.toList_data, Go.Lib.toList_data, hs]
        unfold markOkL
        cases l with
        | nil => simp at p2
        | cons d l =>
          simp only [List.take_succ_cons, List.take_zero, List.cons.injEq, and_true] at p2
          obtain ⟨rfl, rfl⟩ := p2
          cases l with
          | nil => decide
          | cons e l => simp [onesL]
    · have step : ∀ r : ByteArray, (∀ k, impl_markOf.l0 (k + 1) s (1 + 1) = some r) → Ev (fun k => impl_markOf.l0 k s 0) r := by
        intro r hr
        refine Ev.step (f := fun k => impl_markOf.l0 k s (0 + 1)) (fun k => ?_) (Ev.step (f := fun k => impl_markOf.l0 k s (1 + 1)) (fun k => ?_) (Ev.step (f := fun _ => some r) hr (Ev.now _)))
        · simp only [impl_markOf.l0]
          rw [if_pos (by omega), if_pos trivial, e1, decide_eq_false p1]
          rfl
        · simp only [impl_markOf.l0]
          rw [if_pos (by omega), if_neg (by omega), if_pos (by omega), e2, decide_eq_false p2]
          rfl
      have hx : ∀ c, Go.Lib.indexByte (⟨#[40, 41, 123, 125, 91, 93, 44, 46, 59, 124, 60, 43, 45, 42]⟩ : ByteArray).data.toList c ≥ 0 ↔ c ∈ onesL := ixb onesL
      have n1 : ¬ (c :: l) = [45, 62] := fun h => p1 (by rw [h]; rfl)
      have n2 : ¬ (c :: l) = [61, 61] := fun h => p2 (by rw [h]; rfl)
      by_cases hc : c ∈ onesL
      · refine ⟨s.extract 0 1, step _ (fun k => ?_), ?_⟩
        · simp only [impl_markOf.l0]
          rw [if_neg (by omega), if_pos (by omega)]
          unfold strings_IndexByte.f stringslite_IndexByte.f
          simp only [Option.bind_some]
          rw [hb, if_pos ((hx c).2 hc), if_pos (by omega), if_pos (by omega)]
        · rw [Go.Lib.toList_data, Go.Lib.toList_data, tlx, hs]
          unfold markOkL
          rw [decide_eq_false n1, decide_eq_false n2, Bool.false_or, Bool.false_or, Bool.eq_iff_iff, beq_iff_eq, List.any_eq_true]
          simp only [List.take_succ_cons, List.take_zero, decide_eq_true_eq]
          constructor
          · intro h
            exact ⟨c, hc, h.symm⟩
          · rintro ⟨d, _, h⟩
            injection h with h h2
            rw [h2]
      · refine ⟨⟨#[]⟩, step _ (fun k => ?_), ?_⟩
        · simp only [impl_markOf.l0]
          rw [if_neg (by omega), if_pos (by omega)]
          unfold strings_IndexByte.f stringslite_IndexByte.f
          simp only [Option.bind_some]
          rw [hb, if_neg (fun h => hc ((hx c).1 h))]
        · rw [Go.Lib.toList_data, Go.Lib.toList_data, hs]
          unfold markOkL
          rw [decide_eq_false n1, decide_eq_false n2, Bool.false_or, Bool.false_or, Bool.eq_iff_iff, beq_iff_eq, List.any_eq_true]
          constructor
          · intro h; cases h
          · rintro ⟨d, hd, h⟩
            rw [decide_eq_true_eq] at h
            injection h with h h2
            exact absurd (h ▸ hd) hc
theorem impl_TokenOk_ev (a b : Int) (s : ByteArray) (hs : s.size ≤ 140737488351232) : Ev (fun k => impl_TokenOk.f k a b s) (tokOkM a b s) := by
  unfold impl_TokenOk.f tokOkM
  by_cases h1 : a = 1
  · rw [if_pos h1]
    refine ev_pos h1 (ev_of ?_)
    rw [impl_inRange_eq, empty_beq]
    simp only [Option.bind_some]
    cases (decide (0 ≤ b) && decide (b ≤ 1000000000000)) <;> rfl
  rw [if_neg h1]
  refine ev_neg h1 ?_
  by_cases h2 : a = 2
  · rw [if_pos h2]
    refine ev_pos h2 ?_
    by_cases hb : b = 0
    · exact ev_pos hb (Ev.bind (impl_AtomOk_ev s hs) (ev_cast (by rw [decide_eq_true hb, Bool.and_true]) (Ev.now _)))
    · exact ev_neg hb (ev_cast (by rw [decide_eq_false hb, Bool.and_false]) (Ev.now _))
  rw [if_neg h2]
  refine ev_neg h2 ?_
  by_cases h3 : a = 3
  · rw [if_pos h3]
    refine ev_pos h3 ?_
    by_cases hb : b = 0
    · exact ev_pos hb (Ev.bind (impl_varOk_ev s hs) (ev_cast (by rw [decide_eq_true hb, Bool.and_true]) (Ev.now _)))
    · exact ev_neg hb (ev_cast (by rw [decide_eq_false hb, Bool.and_false]) (Ev.now _))
  rw [if_neg h3]
  refine ev_neg h3 ?_
  by_cases h4 : a = 4
  · rw [if_pos h4]
    refine ev_pos h4 ?_
    by_cases hb : b = 0
    · refine ev_pos hb ?_
      rw [decide_eq_true hb, Bool.and_true]
      cases hl : s.data.toList with
      | nil => exact ev_pos (by rw [Go.Lib.toList_data, hl]) (ev_cast (by decide) (Ev.now _))
      | cons c l =>
        obtain ⟨r, e, hr⟩ := impl_markOf_ev s c l hl
        exact ev_neg (by rw [Go.Lib.toList_data, hl]; simp) (Ev.bind e (ev_cast hr (Ev.now _)))
    · exact ev_neg hb (ev_cast (by rw [decide_eq_false hb, Bool.and_false]) (Ev.now _))
  rw [if_neg h4]
  exact ev_neg h4 (Ev.now _)
theorem impl_TokenText_ev (a b : Int) (s : ByteArray) (hs : s.size ≤ 140737488351232) : Ev (fun k => impl_TokenText.f k a b s) (tokTextM a b s) := by
  unfold impl_TokenText.f
  refine Ev.bind (impl_TokenOk_ev a b s hs) ?_
  by_cases h : tokOkM a b s = true
  · refine ev_pos h ?_
    by_cases h1 : a = 1
    · obtain ⟨hb0, hb1⟩ := tokOk_int h h1
      refine ev_cast (tokTextM_int h h1) (ev_pos h1 (ev_of ?_))
      rw [strconv_Itoa_eq b (by omega) (by omega)]
      rfl
    · exact ev_cast (tokTextM_str h h1) (ev_neg h1 (Ev.now _))
  · exact ev_cast (tokTextM_no h) (ev_neg h (Ev.now _))
theorem impl_join_loop (l : List S42) (hl : (l.length : Int) ≤ 1048576) (hb : (sumB tkB l : Int) ≤ 1048576) (d : Nat) : ∀ (i : Nat), i + d = l.length →
    Ev (fun k => impl_JoinTokens.l0 k ((l.take i).map tkT) l (l.length : Int) i) (joinT l) := by
  induction d with
  | zero =>
    intro i hi
    have hs := tk_sum l hl hb
    have e1 : ((l.map tkT).map (·.data.toList)) = l.map fun x => (tkT x).data.toList := by rw [List.map_map]; rfl
    refine Ev.step (f := fun _ => some (joinT l)) (fun k => ?_) (Ev.now _)
    simp only [impl_JoinTokens.l0]
    rw [if_neg (by omega), List.take_of_length_le (by omega)]
    unfold strings_Join.f
    rw [e1, sp32, if_pos]
    · rfl
    · refine ⟨by rw [List.length_map]; omega, ?_⟩
      have h1 := join_len [32] (l.map fun x => (tkT x).data.toList)
      rw [sumB_map, List.length_map] at h1
      have h2 := sumB_le (fun x => ((tkT x).data.toList).length) (fun x => 1 + (tkT x).size) 0 l (fun x _ => by rw [← size_len2]; omega)
      simp only [List.length_singleton] at h1
      omega
  | succ d ih =>
    intro i hi
    have hlt : i < l.length := by omega
    have hm : l[i].f2.size ≤ sumB tkB l := sumB_mem tkB l _ (List.getElem_mem hlt)
    refine Ev.step (f := fun k => (impl_TokenText.f k l[i].f0 l[i].f1 l[i].f2).bind fun t171 => (if ((l.take i).map tkT).length < 8796093022208 then (impl_JoinTokens.l0 k ((l.take i).map tkT ++ [t171]) l (l.length : Int) (wrap64 ((i : Int) + 1))) else (none))) (fun k => ?_) (Ev.bind (impl_TokenText_ev l[i].f0 l[i].f1 l[i].f2 (by omega)) (ev_pos (by rw [List.length_map, List.length_take]; omega) ?_))
    · simp only [impl_JoinTokens.l0]
      rw [if_pos (by omega), if_pos (by omega), if_pos (by omega), rd_it l i hlt]
    · rw [w64 _ (by omega) (by omega)]
      refine Ev.congr (fun k => ?_) (ih (i + 1) (by omega))
      rw [List.take_succ_eq_append_getElem hlt, List.map_append]
      rfl
theorem impl_JoinTokens_ev (l : List S42) (hl : (l.length : Int) ≤ 1048576) (hb : (sumB tkB l : Int) ≤ 1048576) : Ev (fun k => impl_JoinTokens.f k l) (joinT l) := by
  unfold impl_JoinTokens.f
  exact impl_join_loop l hl hb l.length 0 (by omega)
theorem numFrom_ge (w : List UInt8) : ∀ acc, acc ≤ numFrom acc w := by
  induction w with
  | nil => intro acc; exact Nat.le_refl _
  | cons c r ih =>
    intro acc
    have := ih (acc * 10 + (c.toNat - 48))
    have e : numFrom acc (c :: r) = numFrom (acc * 10 + (c.toNat - 48)) r := rfl
    omega
theorem dg_back (c : UInt8) (h0 : 48 ≤ c.toNat) (h1 : c.toNat ≤ 57) : UInt8.ofNat (48 + (c.toNat - 48)) = c := by
  apply UInt8.toNat_inj.1
  rw [dg_nat _ (by omega)]
  omega
theorem dec_back (n : Nat) : ∀ w : List UInt8, w.length = n → (∀ c ∈ w, digB (c.toNat : Int) = true) → w ≠ [] → (w.length ≤ 1 ∨ w.head? ≠ some 48) → Go.Lib.decDigits (numFrom 0 w) = w := by
  induction n with
  | zero => intro w h _ hn; exact absurd (List.eq_nil_of_length_eq_zero h) hn
  | succ n ih =>
    intro w h hd _ hz
    obtain ⟨w', c, rfl⟩ : ∃ w' c, w = w' ++ [c] := ⟨w.dropLast, w.getLast (by rintro rfl; cases h), (List.dropLast_concat_getLast _).symm⟩
    have hc := hd c (by simp)
    unfold digB at hc
    simp only [Bool.and_eq_true, decide_eq_true_eq] at hc
    have e : numFrom 0 (w' ++ [c]) = numFrom 0 w' * 10 + (c.toNat - 48) := by unfold numFrom; rw [List.foldl_append]; rfl
    have hl : w'.length = n := by rw [List.length_append, List.length_singleton] at h; omega
    by_cases hw : w' = []
    · subst hw
      rw [e]
      have : numFrom 0 [] = 0 := rfl
      rw [this, Nat.zero_mul, Nat.zero_add, Go.Lib.decDigits, dif_pos (by omega), dg_back c (by omega) (by omega)]
      rfl
    · obtain ⟨x, r, rfl⟩ : ∃ x r, w' = x :: r := List.exists_cons_of_ne_nil hw
      have hx : x ≠ 48 := by
        rintro rfl
        rcases hz with hz | hz
        · simp at hz
        · exact hz rfl
      have hxd := hd x (by simp)
      unfold digB at hxd
      simp only [Bool.and_eq_true, decide_eq_true_eq] at hxd
      have hx48 : x.toNat ≠ 48 := fun q => hx (UInt8.toNat_inj.1 q)
      have hge : 1 ≤ numFrom 0 (x :: r) := by
        have e2 : numFrom 0 (x :: r) = numFrom (0 * 10 + (x.toNat - 48)) r := rfl
        have := numFrom_ge r (0 * 10 + (x.toNat - 48))
        omega
      have ih' := ih (x :: r) hl (fun y hy => hd y (List.mem_append_left _ hy)) (by simp) (.inr (by simp only [List.head?_cons, ne_eq, Option.some.injEq]; exact hx))
      rw [e, Go.Lib.decDigits, dif_neg (by omega)]
      have q1 : (numFrom 0 (x :: r) * 10 + (c.toNat - 48)) / 10 = numFrom 0 (x :: r) := by omega
      have q2 : (numFrom 0 (x :: r) * 10 + (c.toNat - 48)) % 10 = c.toNat - 48 := by omega
      rw [q1, q2, ih', dg_back c (by omega) (by omega)]
theorem parse_digits (w : List UInt8) : ∀ acc : Nat, (∀ c ∈ w, digB (c.toNat : Int) = true) → (acc + 1) * 10 ^ w.length ≤ 10000000000000 → Go.Lib.parseUint10 acc w = .ok (numFrom acc w) := by
  induction w with
  | nil => intro acc _ _; rfl
  | cons c r ih =>
    intro acc h hb
    have hd := h c List.mem_cons_self
    unfold digB at hd
    simp only [Bool.and_eq_true, decide_eq_true_eq] at hd
    have h10 : (acc + 1) * 10 ^ (r.length + 1) = (acc + 1) * 10 * 10 ^ r.length := by rw [Nat.pow_succ, Nat.mul_comm (10 ^ r.length) 10, Nat.mul_assoc]
    rw [List.length_cons, h10] at hb
    have hp : 1 ≤ 10 ^ r.length := Nat.one_le_pow _ _ (by omega)
    have hb3 : (acc + 1) * 10 ≤ 10000000000000 := Nat.le_trans (Nat.le_mul_of_pos_right _ hp) hb
    have hb4 : (acc * 10 + (c.toNat - 48) + 1) * 10 ^ r.length ≤ 10000000000000 := Nat.le_trans (Nat.mul_le_mul_right _ (by omega)) hb
    have e := ih (acc * 10 + (c.toNat - 48)) (fun x hx => h x (List.mem_cons_of_mem _ hx)) hb4
    rw [Go.Lib.parseUint10, if_pos (by omega), if_neg (by omega), if_neg (by omega), e]
    rfl
theorem dec_head (n : Nat) : ∀ v, v ≤ n → 1 ≤ v → ∀ c t, Go.Lib.decDigits v = c :: t → c ≠ 48 := by
  induction n with
  | zero => intro v h1 h2; omega
  | succ n ih =>
    intro v h1 h2 c t e
    by_cases h : v < 10
    · rw [Go.Lib.decDigits, dif_pos h] at e
      injection e with e _
      rintro rfl
      have := congrArg UInt8.toNat e
      rw [dg_nat v h] at this
      have z : (48 : UInt8).toNat = 48 := rfl
      omega
    · rw [Go.Lib.decDigits, dif_neg h] at e
      obtain ⟨c', t', e'⟩ := decDigits_ne (v / 10)
      rw [e', List.cons_append] at e
      injection e with e _
      exact e ▸ ih (v / 10) (by omega) (by omega) c' t' e'
theorem dec_lead (w : List UInt8) (h : 1 < w.length) (h48 : w.head? = some 48) : Go.Lib.decDigits (numFrom 0 w) ≠ w := by
  intro e
  obtain ⟨x, r, rfl⟩ : ∃ x r, w = x :: r := List.exists_cons_of_ne_nil (by rintro rfl; simp at h)
  simp only [List.head?_cons, Option.some.injEq] at h48
  by_cases hv : 1 ≤ numFrom 0 (x :: r)
  · exact dec_head _ _ (Nat.le_refl _) hv x r e h48
  · have h0 : numFrom 0 (x :: r) = 0 := by omega
    rw [h0, Go.Lib.decDigits, dif_pos (by omega)] at e
    have := congrArg List.length e
    simp at this
    rw [List.length_cons, this] at h
    simp at h
theorem impl_number_ev (w : ByteArray) (hd : ∀ c ∈ w.data.toList, digB (c.toNat : Int) = true) (hn : 1 ≤ w.size) : ∃ v : Int, impl_numberOf.f w = some (v, numOk w.data.toList) ∧ (numOk w.data.toList = true → v = (decVal w.data.toList : Int)) := by
  have hlen := size_len w
  unfold impl_numberOf.f
  rw [impl_inRange_eq]
  simp only [Option.bind_some]
  by_cases h13 : w.size ≤ 13
  · rw [if_pos (by simp; omega)]
    have hpw : (10 : Nat) ^ w.data.toList.length ≤ 10 ^ 13 := Nat.pow_le_pow_right (by omega) (by omega)
    have hp := parse_digits w.data.toList 0 hd (by omega)
    have hv : decVal w.data.toList = numFrom 0 w.data.toList := rfl
    have hbd := numFrom_bound w.data.toList 0 hd
    obtain ⟨c, r, hcr⟩ : ∃ c r, w.data.toList = c :: r := List.exists_cons_of_ne_nil (by intro q; rw [q, List.length_nil] at hlen; omega)
    have hcd := hd c (by rw [hcr]; exact List.mem_cons_self)
    unfold digB at hcd
    simp only [Bool.and_eq_true, decide_eq_true_eq] at hcd
    have ha : Go.Lib.atoiAll w.data.toList = .ok (numFrom 0 w.data.toList : Int) := by
      have q : Go.Lib.parseMag (c :: r) = .ok (numFrom 0 w.data.toList) := by
        unfold Go.Lib.parseMag
        rw [if_neg (by simp), ← hcr]
        exact hp
      conv => lhs; rw [hcr]
      rw [Go.Lib.atoiAll_plain c r (by omega) (by omega), q]
      unfold Go.Lib.signless
      simp only
      rw [if_neg (by omega)]
    have h1 : strconv_Atoi.f w = some ((numFrom 0 w.data.toList : Int), none) := by
      unfold strconv_Atoi.f
      rw [if_pos (by omega), ha]
    rw [h1]
    simp only [Option.bind_some, Option.isNone_none, if_true]
    rw [strconv_Itoa_eq _ (by omega) (by omega)]
    simp only [Option.bind_some]
    rw [Go.Lib.toList_data, Go.Lib.toList_data, Go.Lib.itoa_nonneg]
    by_cases hz : w.data.toList.length ≤ 1 ∨ w.data.toList.head? ≠ some 48
    · have hb := dec_back _ w.data.toList rfl hd (by rw [hcr]; simp) hz
      rw [if_pos hb]
      refine ⟨(numFrom 0 w.data.toList : Int), ?_, fun _ => rfl⟩
      rw [impl_inRange_eq]
      simp only [Option.bind_some]
      unfold numOk
      rw [decide_eq_true (show w.data.toList.length ≤ 13 by omega), hv]
      rcases hz with hz | hz
      · rw [decide_eq_true hz]
        simp
        omega
      · rw [decide_eq_false hz]
        simp
        omega
    · have hz1 : ¬ w.data.toList.length ≤ 1 := fun q => hz (.inl q)
      have hz2 : w.data.toList.head? = some 48 := Classical.byContradiction fun q => hz (.inr q)
      have hb := dec_lead w.data.toList (by omega) hz2
      rw [if_neg hb]
      have hno : numOk w.data.toList = false := by
        unfold numOk
        rw [decide_eq_true hz2, decide_eq_false hz1]
        simp
      rw [hno]
      exact ⟨_, rfl, fun h => by cases h⟩
  · rw [if_neg (by simp; omega)]
    have hno : numOk w.data.toList = false := by
      unfold numOk
      rw [decide_eq_false (show ¬ w.data.toList.length ≤ 13 by omega)]
      rfl
    rw [hno]
    exact ⟨0, rfl, fun h => by cases h⟩
theorem runOf_gen (s : ByteArray) (F : Nat → Int → Option ByteArray) (p : UInt8 → Bool) (hstep : ∀ (k i : Nat) (c : UInt8), i < s.size → bt s (i : Int) = (c.toNat : Int) → F (k + 1) (i : Int) = if p c = true then F k ((i + 1 : Nat) : Int) else some (s.extract 0 i)) (hend : ∀ k, F (k + 1) ((s.size : Nat) : Int) = some (s.extract 0 s.size)) (d : Nat) :
    ∀ i : Nat, i + d = s.size → Ev (fun k => F k (i : Int)) (s.extract 0 (i + ((s.data.toList.drop i).takeWhile p).length)) := by
  induction d with
  | zero =>
    intro i hi
    have hn : s.data.toList.drop i = [] := List.drop_eq_nil_of_le (by rw [← size_len]; omega)
    rw [hn]
    obtain rfl : i = s.size := by omega
    exact Ev.step (f := fun _ => some (s.extract 0 s.size)) (fun k => hend k) (Ev.now _)
  | succ d ih =>
    intro i hi
    obtain ⟨c, r, hd, hr, hb⟩ := bt_cons s i (by omega)
    have e := ih (i + 1) (by omega)
    rw [← hr] at e
    rw [hd, List.takeWhile_cons]
    by_cases hp : p c = true
    · rw [if_pos hp, List.length_cons]
      refine Ev.step (fun k => ?_) (ev_cast (by congr 1; omega) e)
      rw [hstep k i c (by omega) hb, if_pos hp]
    · rw [if_neg hp]
      refine Ev.step (f := fun _ => some (s.extract 0 i)) (fun k => ?_) (Ev.now _)
      rw [hstep k i c (by omega) hb, if_neg hp]
theorem runOf_word (s : ByteArray) (p : UInt8 → Bool) : s.extract 0 (0 + ((s.data.toList.drop 0).takeWhile p).length) = ⟨(s.data.toList.takeWhile p).toArray⟩ := by
  apply ba_mk
  rw [tlx, List.drop_zero, Nat.zero_add]
  exact (List.prefix_iff_eq_take.1 (List.takeWhile_prefix _)).symm
theorem run_passed (s : ByteArray) (hs : s.size ≤ 1048700) : Ev (fun k => impl_runOf_of_impl_passed_1.f k s) ⟨(s.data.toList.takeWhile (fun c => decide ((c.toNat : Int) ≠ 10))).toArray⟩ := by
  rw [← runOf_word]
  refine runOf_gen s (fun k i => impl_runOf_of_impl_passed_1.l0 k s i) _ ?_ ?_ s.size 0 (by omega)
  · intro k i c hi hb
    simp only [impl_runOf_of_impl_passed_1.l0]
    rw [if_pos (by omega), if_pos (by omega), hb]
    unfold impl_passed_1.f
    simp only [Option.bind_some]
    show _ = if decide ((c.toNat : Int) ≠ 10) = true then impl_runOf_of_impl_passed_1.l0 k s ((i + 1 : Nat) : Int) else some (s.extract 0 i)
    by_cases h : (c.toNat : Int) = 10
    · have q1 : decide ((c.toNat : Int) ≠ 10) = false := by simp [h]
      have q2 : ((c.toNat : Int) != 10) = false := by simp [h]
      rw [q1, q2, if_neg (show ¬ (false = true) by decide), if_neg (show ¬ (false = true) by decide), if_pos (show (i : Int) ≤ (s.size : Int) by omega)]; rfl
    · have q1 : decide ((c.toNat : Int) ≠ 10) = true := by simp [h]
      have q2 : ((c.toNat : Int) != 10) = true := by simp [h]
      rw [q1, q2, if_pos rfl, if_pos rfl, w64 _ (by omega) (by omega)]; rfl
  · intro k
    simp only [impl_runOf_of_impl_passed_1.l0]
    rw [if_neg (by omega), if_pos (by omega), if_pos (by omega)]; rfl
theorem run_fig (s : ByteArray) (hs : s.size ≤ 1048700) : Ev (fun k => impl_runOf_of_impl_isFigure.f k s) ⟨(wordL false false s.data.toList).toArray⟩ := by
  unfold wordL
  rw [← runOf_word]
  refine runOf_gen s (fun k i => impl_runOf_of_impl_isFigure.l0 k s i) _ ?_ ?_ s.size 0 (by omega)
  · intro k i c hi hb
    simp only [impl_runOf_of_impl_isFigure.l0]
    rw [if_pos (by omega), if_pos (by omega), hb, impl_isFigure_eq]
    simp only [Option.bind_some]
    have e : runP false false (c.toNat : Int) = digB (c.toNat : Int) := by unfold runP; simp
    rw [e, w64 _ (by omega) (by omega), if_pos (show (i : Int) ≤ (s.size : Int) by omega)]
    rfl
  · intro k
    simp only [impl_runOf_of_impl_isFigure.l0]
    rw [if_neg (by omega), if_pos (by omega), if_pos (by omega)]; rfl
theorem isAtomByte_eq (n : Int) : impl_isAtomByte.f n = some (runP true false n) := by
  unfold impl_isAtomByte.f
  rw [impl_isSmall_eq, impl_isFigure_eq]
  simp only [Option.bind_some]
  unfold runP
  by_cases h95 : n = 95
  · rw [h95]; rfl
  · have : (n == 95) = false := by simpa using h95
    rw [this, decide_eq_false h95]
    cases lowB n <;> cases digB n <;> rfl
theorem run_atom (s : ByteArray) (hs : s.size ≤ 1048700) : Ev (fun k => impl_runOf_of_impl_isAtomByte.f k s) ⟨(wordL true false s.data.toList).toArray⟩ := by
  unfold wordL
  rw [← runOf_word]
  refine runOf_gen s (fun k i => impl_runOf_of_impl_isAtomByte.l0 k s i) _ ?_ ?_ s.size 0 (by omega)
  · intro k i c hi hb
    simp only [impl_runOf_of_impl_isAtomByte.l0]
    rw [if_pos (by omega), if_pos (by omega), hb, isAtomByte_eq]
    simp only [Option.bind_some]
    rw [w64 _ (by omega) (by omega), if_pos (show (i : Int) ≤ (s.size : Int) by omega)]
    rfl
  · intro k
    simp only [impl_runOf_of_impl_isAtomByte.l0]
    rw [if_neg (by omega), if_pos (by omega), if_pos (by omega)]; rfl
theorem word_runP (n : Int) : (lowB n || (largeB n || digB n)) = runP true true n := by
  unfold runP largeB
  by_cases h95 : n = 95
  · rw [h95]; rfl
  · rw [decide_eq_false h95]
    cases lowB n <;> cases digB n <;> simp
theorem run_word (s : ByteArray) (hs : s.size ≤ 1048700) : Ev (fun k => impl_runOf_of_impl_isWordByte.f k s) ⟨(wordL true true s.data.toList).toArray⟩ := by
  unfold wordL
  rw [← runOf_word]
  refine runOf_gen s (fun k i => impl_runOf_of_impl_isWordByte.l0 k s i) _ ?_ ?_ s.size 0 (by omega)
  · intro k i c hi hb
    simp only [impl_runOf_of_impl_isWordByte.l0]
    rw [if_pos (by omega), if_pos (by omega), hb, impl_isWord_eq, word_runP]
    simp only [Option.bind_some]
    rw [w64 _ (by omega) (by omega), if_pos (show (i : Int) ≤ (s.size : Int) by omega)]
    rfl
  · intro k
    simp only [impl_runOf_of_impl_isWordByte.l0]
    rw [if_neg (by omega), if_pos (by omega), if_pos (by omega)]; rfl
theorem impl_mark_ex (s : ByteArray) (c : UInt8) (l : List UInt8) (hs : s.data.toList = c :: l) : ∃ r : ByteArray, Ev (fun k => impl_markOf.f k s) r ∧ r.data.toList = (if (c :: l).take 2 = [45, 62] ∨ (c :: l).take 2 = [61, 61] then (c :: l).take 2 else if c ∈ onesL then [c] else []) := by
  unfold impl_markOf.f
  have h0 : 0 < s.size := by rw [size_len, hs]; simp
  have e1 := hasPrefix2 s 45 62
  have e2 := hasPrefix2 s 61 61
  have hb := bt0 s c l hs
  rw [hs] at e1 e2
  by_cases p1 : (c :: l).take 2 = [45, 62]
  · refine ⟨⟨#[45, 62]⟩, Ev.step (f := fun _ => some ⟨#[45, 62]⟩) (fun k => ?_) (Ev.now _), ?_⟩
    · simp only [impl_markOf.l0]
      rw [if_pos (by omega), if_pos trivial, e1, decide_eq_true p1]
      rfl
    · rw [if_pos (.inl p1), p1]
  · by_cases p2 : (c :: l).take 2 = [61, 61]
    · refine ⟨⟨#[61, 61]⟩, Ev.step (f := fun k => impl_markOf.l0 k s (0 + 1)) (fun k => ?_) (Ev.step (f := fun _ => some ⟨#[61, 61]⟩) (fun k => ?_) (Ev.now _)), ?_⟩
      · simp only [impl_markOf.l0]
        rw [if_pos (by omega), if_pos trivial, e1, decide_eq_false p1]
        rfl
      · simp only [impl_markOf.l0]
        rw [if_pos (by omega), if_neg (by omega), if_pos (by omega), e2, decide_eq_true p2]
        rfl
      · rw [if_pos (.inr p2), p2]
    · have step : ∀ r : ByteArray, (∀ k, impl_markOf.l0 (k + 1) s (1 + 1) = some r) → Ev (fun k => impl_markOf.l0 k s 0) r := by
        intro r hr
        refine Ev.step (f := fun k => impl_markOf.l0 k s (0 + 1)) (fun k => ?_) (Ev.step (f := fun k => impl_markOf.l0 k s (1 + 1)) (fun k => ?_) (Ev.step (f := fun _ => some r) hr (Ev.now _)))
        · simp only [impl_markOf.l0]
          rw [if_pos (by omega), if_pos trivial, e1, decide_eq_false p1]
          rfl
        · simp only [impl_markOf.l0]
          rw [if_pos (by omega), if_neg (by omega), if_pos (by omega), e2, decide_eq_false p2]
          rfl
      have hx : ∀ c, Go.Lib.indexByte (⟨#[40, 41, 123, 125, 91, 93, 44, 46, 59, 124, 60, 43, 45, 42]⟩ : ByteArray).data.toList c ≥ 0 ↔ c ∈ onesL := ixb onesL
      have np : ¬ ((c :: l).take 2 = [45, 62] ∨ (c :: l).take 2 = [61, 61]) := fun h => h.elim p1 p2
      rw [if_neg np]
      by_cases hc : c ∈ onesL
      · refine ⟨s.extract 0 1, step _ (fun k => ?_), ?_⟩
        · simp only [impl_markOf.l0]
          rw [if_neg (by omega), if_pos (by omega)]
          unfold strings_IndexByte.f stringslite_IndexByte.f
          simp only [Option.bind_some]
          rw [hb, if_pos ((hx c).2 hc), if_pos (by omega), if_pos (by omega)]
        · rw [if_pos hc, tlx, hs]; rfl
      · refine ⟨⟨#[]⟩, step _ (fun k => ?_), ?_⟩
        · simp only [impl_markOf.l0]
          rw [if_neg (by omega), if_pos (by omega)]
          unfold strings_IndexByte.f stringslite_IndexByte.f
          simp only [Option.bind_some]
          rw [hb, if_neg (fun h => hc ((hx c).1 h))]
        · rw [if_neg hc]
theorem impl_one (t : ByteArray) (hs : t.size ≤ 1048700) (c : UInt8) (r : List UInt8) (h : t.data.toList = c :: r) : ∃ (b' : Int) (s' : ByteArray) (n' : Int), Ev (fun k => impl_tokenOf.f k t) ((oneM (c :: r)).a, b', s', n', (oneM (c :: r)).ok) ∧ ((oneM (c :: r)).ok = true → b' = (oneM (c :: r)).b ∧ s' = (oneM (c :: r)).s ∧ n' = ((oneM (c :: r)).n : Int)) := by
  have h0 : 0 < t.size := by rw [size_len, h]; simp
  have hb : bt t 0 = (c.toNat : Int) := by
    obtain ⟨c', r', h1, _, h2⟩ := bt_cons t 0 h0
    rw [List.drop_zero, h] at h1
    injection h1 with h1 _
    rw [h1]; exact h2
  have rf := run_fig t hs
  have ra := run_atom t hs
  have rw' := run_word t hs
  rw [h] at rf ra rw'
  have wl : ∀ x2 x3, (wordL x2 x3 (c :: r)).length ≤ t.size := fun x2 x3 => by
    have : (wordL x2 x3 (c :: r)).length ≤ (c :: r).length := (List.takeWhile_prefix _).length_le
    rw [size_len, h]; exact this
  unfold impl_tokenOf.f
  rw [hb, oneM]
  by_cases h1 : digB (c.toNat : Int) = true
  · rw [if_pos h1]
    have hpos := wordL_pos false false c r (by unfold runP; rw [h1]; rfl)
    obtain ⟨v, ev, hv⟩ := impl_number_ev ⟨(wordL false false (c :: r)).toArray⟩ (fun x hx => by
      have := wordL_all false false (c :: r) x (by simpa using hx)
      unfold runP at this
      simpa using this) (by rw [ba_size]; exact hpos)
    refine ⟨v, ⟨#[]⟩, _, ev_pos (by omega) (Ev.bind (ev_of (impl_isFigure_eq _)) (ev_pos h1 (Ev.bind rf (Ev.bind (ev_of ev) (Ev.now _))))), fun hok => ⟨hv hok, rfl, ?_⟩⟩
    rw [ba_size]
  rw [if_neg h1]
  by_cases h2 : lowB (c.toNat : Int) = true
  · rw [if_pos h2]
    have hw := wl true false
    refine ⟨0, _, _, ev_pos (by omega) (Ev.bind (ev_of (impl_isFigure_eq _)) (ev_neg h1 (Ev.bind (ev_of (impl_isSmall_eq _)) (ev_pos h2 (Ev.bind ra (Ev.bind (impl_AtomOk_ev _ (by rw [ba_size]; omega)) (Ev.now _))))))), fun hok => ⟨rfl, rfl, ?_⟩⟩
    rw [ba_size]
  rw [if_neg h2]
  by_cases h3 : largeB (c.toNat : Int) = true
  · rw [if_pos h3]
    have hw := wl true true
    refine ⟨0, _, _, ev_pos (by omega) (Ev.bind (ev_of (impl_isFigure_eq _)) (ev_neg h1 (Ev.bind (ev_of (impl_isSmall_eq _)) (ev_neg h2 (Ev.bind (ev_of (impl_isLarge_eq _)) (ev_pos h3 (Ev.bind rw' (Ev.bind (impl_varOk_ev _ (by rw [ba_size]; omega)) (Ev.now _))))))))), fun hok => ⟨rfl, rfl, ?_⟩⟩
    rw [ba_size]
  rw [if_neg h3]
  obtain ⟨m, em, hm⟩ := impl_mark_ex t c r h
  have go : ∀ ok : Bool, (m.toList != ([] : List UInt8)) = ok → Ev (fun k => if 0 < (t.size : Int) then ((impl_isFigure.f (c.toNat : Int)).bind fun t185 => (if t185 = true then ((impl_runOf_of_impl_isFigure.f k t).bind fun t186 => ((impl_numberOf.f t186).bind fun bt187 => (some ((1 : Int), bt187.1, (⟨#[]⟩ : ByteArray), (t186.size : Int), bt187.2)))) else ((impl_isSmall.f (c.toNat : Int)).bind fun t189 => (if t189 = true then ((impl_runOf_of_impl_isAtomByte.f k t).bind fun t190 => ((impl_AtomOk.f k t190).bind fun t191 => (some ((2 : Int), (0 : Int), t190, (t190.size : Int), t191)))) else ((impl_isLarge.f (c.toNat : Int)).bind fun t192 => (if t192 = true then ((impl_runOf_of_impl_isWordByte.f k t).bind fun t193 => ((impl_varOk.f k t193).bind fun t194 => (some ((3 : Int), (0 : Int), t193, (t193.size : Int), t194)))) else ((impl_markOf.f k t).bind fun t195 => (some ((4 : Int), (0 : Int), t195, (t195.size : Int), (t195.toList != ([] : List UInt8))))))))))) else (none)) ((4 : Int), (0 : Int), m, (m.size : Int), ok) := by
    intro ok hok
    exact ev_pos (by omega) (Ev.bind (ev_of (impl_isFigure_eq _)) (ev_neg h1 (Ev.bind (ev_of (impl_isSmall_eq _)) (ev_neg h2 (Ev.bind (ev_of (impl_isLarge_eq _)) (ev_neg h3 (Ev.bind em (ev_cast (by rw [hok]) (Ev.now _)))))))))
  by_cases h4 : markOkL ((c :: r).take 2) = true ∧ 1 ≤ r.length
  · rw [if_pos ((mark_two c r).1 h4)] at hm
    rw [if_pos h4]
    have hm2 := ba_mk hm
    refine ⟨0, m, _, go true ?_, fun _ => ⟨rfl, hm2, ?_⟩⟩
    · rw [Go.Lib.toList_data, hm]; rfl
    · rw [size_len, hm, List.length_take, List.length_cons]
      show ((min 2 (r.length + 1) : Nat) : Int) = 2
      omega
  · rw [if_neg (fun q => h4 ((mark_two c r).2 q))] at hm
    rw [if_neg h4]
    by_cases hc : c ∈ onesL
    · rw [if_pos hc] at hm
      have hm2 := ba_mk hm
      refine ⟨0, m, _, go _ ?_, fun _ => ⟨rfl, hm2, ?_⟩⟩
      · rw [Go.Lib.toList_data, hm, mark_one, decide_eq_true hc]; rfl
      · rw [size_len, hm]; rfl
    · rw [if_neg hc] at hm
      refine ⟨0, m, _, go _ ?_, fun hok => ?_⟩
      · rw [Go.Lib.toList_data, hm, mark_one, decide_eq_false hc]; rfl
      · have : markOkL [c] = true := hok
        rw [mark_one, decide_eq_false hc] at this
        cases this
theorem passL_skip (r : List UInt8) : passL true r = passL false (r.drop (r.takeWhile (fun c => decide ((c.toNat : Int) ≠ 10))).length) := by
  induction r with
  | nil => rfl
  | cons c r ih =>
    rw [passL, List.takeWhile_cons]
    by_cases h : (c.toNat : Int) = 10
    · rw [if_pos h, if_neg (by simp [h])]
      show _ = passL false (c :: r)
      rw [passL, if_pos (by unfold blankI; rw [h]; decide)]
    · rw [if_neg h, if_pos (by simp [h]), ih]
      rfl
theorem impl_passed_ev (s : ByteArray) (hs : s.size ≤ 1048700) (c : UInt8) (r : List UInt8) (h : s.data.toList = c :: r) : ∃ n : Nat, Ev (fun k => impl_passed.f k s) (n : Int) ∧ n ≤ s.size ∧ passL false (c :: r) = (if n = 0 then c :: r else passL false ((c :: r).drop n)) := by
  have h0 : 0 < s.size := by rw [size_len, h]; simp
  have hb0 := bt0 s c r h
  have hb : bt s 0 = (c.toNat : Int) := by
    obtain ⟨c', r', h1, _, h2⟩ := bt_cons s 0 h0
    rw [List.drop_zero, h] at h1
    injection h1 with h1 _
    rw [h1]; exact h2
  unfold impl_passed.f
  have hx : ∀ c, Go.Lib.indexByte (⟨#[32, 9, 10, 13]⟩ : ByteArray).data.toList c ≥ 0 ↔ c ∈ ([32, 9, 10, 13] : List UInt8) := ixb [32, 9, 10, 13]
  have hbl : blankI (c.toNat : Int) = true ↔ c ∈ ([32, 9, 10, 13] : List UInt8) := by
    have q : ∀ d : UInt8, ((c.toNat : Int) = (d.toNat : Int)) ↔ c = d := by
      intro d
      rw [← UInt8.toNat_inj]
      omega
    unfold blankI
    simp only [Bool.or_eq_true, decide_eq_true_eq, List.mem_cons, List.not_mem_nil, or_false]
    have q1 := q 32; have q2 := q 9; have q3 := q 10; have q4 := q 13
    have z1 : ((32 : UInt8).toNat : Int) = 32 := rfl
    have z2 : ((9 : UInt8).toNat : Int) = 9 := rfl
    have z3 : ((10 : UInt8).toNat : Int) = 10 := rfl
    have z4 : ((13 : UInt8).toNat : Int) = 13 := rfl
    rw [z1] at q1; rw [z2] at q2; rw [z3] at q3; rw [z4] at q4
    rw [q1, q2, q3, q4]
  have e1 : strings_IndexByte.f (⟨#[32, 9, 10, 13]⟩ : ByteArray) (bt s 0) = some (Go.Lib.indexByte (⟨#[32, 9, 10, 13]⟩ : ByteArray).data.toList c) := by
    unfold strings_IndexByte.f stringslite_IndexByte.f
    simp only [Option.bind_some]
    rw [hb0]
  by_cases hk : blankI (c.toNat : Int) = true
  · refine ⟨1, ev_pos (by omega) (Ev.bind (ev_of e1) (ev_pos ((hx c).2 (hbl.1 hk)) (Ev.now _))), by omega, ?_⟩
    rw [if_neg (by decide), passL, if_pos hk]
    rfl
  · have hni : ¬ Go.Lib.indexByte (⟨#[32, 9, 10, 13]⟩ : ByteArray).data.toList c ≥ 0 := fun q => hk (hbl.2 ((hx c).1 q))
    by_cases h37 : (c.toNat : Int) = 37
    · have er := run_passed s hs
      rw [h] at er
      have hl : ((c :: r).takeWhile (fun c => decide ((c.toNat : Int) ≠ 10))).length ≤ (c :: r).length := (List.takeWhile_prefix _).length_le
      refine ⟨((c :: r).takeWhile (fun c => decide ((c.toNat : Int) ≠ 10))).length, ev_pos (by omega) (Ev.bind (ev_of e1) (ev_neg hni (ev_pos (by rw [hb]; exact h37) (Ev.bind er (ev_cast ?_ (Ev.now _)))))), by rw [size_len, h]; exact hl, ?_⟩
      · rw [ba_size]
      · have hcons : (c :: r).takeWhile (fun c => decide ((c.toNat : Int) ≠ 10)) = c :: r.takeWhile (fun c => decide ((c.toNat : Int) ≠ 10)) := by
          rw [List.takeWhile_cons, if_pos (by simp [h37])]
        rw [hcons, List.length_cons, if_neg (by omega), passL, if_neg hk, if_pos h37, passL_skip]
        rfl
    · refine ⟨0, ev_pos (by omega) (Ev.bind (ev_of e1) (ev_neg hni (ev_neg (by rw [hb]; exact h37) (Ev.now _)))), by omega, ?_⟩
      rw [if_pos rfl, passL, if_neg hk, if_neg h37]
theorem step_help {a i n d : Nat} (h : a - i ≤ d + 1) (hz : ¬ n = 0) (hn : n ≤ a - i) (hi : i < a) : a - (i + n) ≤ d ∧ i + n ≤ a := by omega
theorem wrap_help {a i n : Nat} (h : i + n ≤ a) (ha : a ≤ 1048700) : wrap64 ((i : Int) + (n : Int)) = ((i + n : Nat) : Int) := by rw [w64 _ (by omega) (by omega)]; omega
set_option maxHeartbeats 2000000 in
theorem impl_Lex_loop (s : ByteArray) (hs : s.size ≤ 1048700) (d : Nat) : ∀ (i : Nat) (acc : List S42), s.size - i ≤ d → i ≤ s.size → acc.length ≤ 2000 → Ev (fun k => impl_Lex.l0 k s acc i) (lexN s.size (passL false (s.data.toList.drop i)) acc) := by
  induction d with
  | zero =>
    intro i acc hi h1 h2
    have hn : s.data.toList.drop i = [] := List.drop_eq_nil_of_le (by rw [← size_len]; omega)
    rw [hn]
    exact Ev.step (f := fun _ => some (acc, -1)) (fun k => by simp only [impl_Lex.l0]; rw [if_neg (by omega)]) (Ev.now _)
  | succ d ih =>
    intro i acc hi h1 h2
    by_cases hlt : i < s.size
    · obtain ⟨c, r, hd, hr, hb⟩ := bt_cons s i hlt
      have ht := tail_list s i
      have hts : (s.extract i s.size).size = s.size - i := by rw [size_len, ht, List.length_drop, ← size_len]
      rw [hd] at ht
      obtain ⟨n, en, hn, hp⟩ := impl_passed_ev (s.extract i s.size) (by omega) c r ht
      obtain ⟨b', s', n', et, hb'⟩ := impl_one (s.extract i s.size) (by omega) c r ht
      have hdd : ∀ m, (c :: r).drop m = s.data.toList.drop (i + m) := by intro m; rw [← hd, List.drop_drop]
      have hlen : (c :: r).length = s.size - i := by rw [← hd, List.length_drop, ← size_len]
      have hn1 : i + (oneM (c :: r)).n ≤ s.size := by have := oneM_le (c :: r); omega
      rw [hd, hp]
      refine Ev.step (f := fun k => (impl_passed.f k (s.extract (i : Int).toNat s.size)).bind fun t196 => (if t196 > 0 then (impl_Lex.l0 k s acc (wrap64 ((i : Int) + t196))) else ((impl_tokenOf.f k (s.extract (i : Int).toNat s.size)).bind fun bt197 => (if bt197.2.2.2.2 = true then (if (acc.length : Int) = 2000 then (some (([] : List S42), (i : Int))) else (if acc.length < 4398046511104 then (impl_Lex.l0 k s (acc ++ [(⟨bt197.1, bt197.2.1, bt197.2.2.1⟩ : S42)]) (wrap64 ((i : Int) + bt197.2.2.2.1))) else (none))) else (some (([] : List S42), (i : Int))))))) (fun k => by simp only [impl_Lex.l0]; rw [if_pos (by omega), if_pos (by omega), if_pos (by omega)]) ?_
      rw [Int.toNat_natCast]
      refine Ev.bind en ?_
      by_cases hz : n = 0
      · refine ev_cast (congrArg (fun L => lexN s.size L acc) (if_pos hz).symm) (ev_neg (by omega) (Ev.bind et ?_))
        rw [lexN_cons, hdd]
        have hx : (s.size : Int) - (c :: r).length = (i : Int) := by rw [hlen]; omega
        rw [hx]
        have hpos := oneM_pos c r
        generalize oneM (c :: r) = O at *
        by_cases hok : O.ok = true
        · obtain ⟨rfl, rfl, rfl⟩ := hb' hok
          refine ev_cast (if_pos hok).symm (ev_pos hok ?_)
          by_cases hfull : acc.length = 2000
          · exact ev_cast (if_pos hfull).symm (ev_pos (by omega) (Ev.now _))
          · refine ev_cast (if_neg hfull).symm (ev_neg (by omega) (ev_pos (by omega) ?_))
            have q := step_help (n := O.n) hi (by omega) (by omega) hlt
            show Ev (fun k => impl_Lex.l0 k s _ (wrap64 ((i : Int) + (O.n : Int)))) _
            rw [wrap_help q.2 hs]
            exact ih (i + O.n) _ q.1 q.2 (by rw [List.length_append, List.length_singleton]; omega)
        · exact ev_cast (if_neg hok).symm (ev_neg hok (Ev.now _))
      · refine ev_cast (congrArg (fun L => lexN s.size L acc) (if_neg hz).symm) (ev_pos (by omega) ?_)
        rw [hdd]
        have q := step_help hi hz (hts ▸ hn) hlt
        rw [wrap_help q.2 hs]
        exact ih (i + n) acc q.1 q.2 h2
    · exact ih i acc (by omega) h1 h2
theorem impl_Lex_ev (s : ByteArray) (hs : s.size ≤ 1048700) : Ev (fun k => impl_Lex.f k s) (lexN s.size (passL false s.data.toList) []) := by
  have e := impl_Lex_loop s hs s.size 0 [] (by omega) (by omega) (by simp)
  rw [List.drop_zero] at e
  exact e
theorem lexL_len (sz : Nat) : ∀ (n : Nat) (L : List UInt8) (acc : List S42), acc.length ≤ 2000 → (lexL sz n L acc).1.length ≤ 2000 := by
  intro n
  induction n with
  | zero => intro L acc h; exact h
  | succ n ih =>
    intro L acc h
    cases L with
    | nil => exact h
    | cons c r =>
      rw [lexL]
      split
      · split
        · simp
        · exact ih _ _ (by rw [List.length_append, List.length_singleton]; omega)
      · simp
theorem spec_pass (s : ByteArray) (hs : s.size ≤ 140737488351232) (d : Nat) : ∀ i : Nat, i + d = s.size →
    (∃ p : Nat, i ≤ p ∧ p ≤ s.size ∧ s.data.toList.drop p = passL false (s.data.toList.drop i) ∧ Ev (fun k => spec_l3Pass.l0 k s i) (p : Int)) ∧ (∃ p : Nat, i ≤ p ∧ p ≤ s.size ∧ s.data.toList.drop p = passL true (s.data.toList.drop i) ∧ Ev (fun k => spec_l3Pass.l1 k s i) (p : Int)) := by
  induction d with
  | zero =>
    intro i hi
    have hn : s.data.toList.drop i = [] := List.drop_eq_nil_of_le (by rw [← size_len]; omega)
    have e0 : Ev (fun k => spec_l3Pass.l0 k s i) (i : Int) := Ev.step (f := fun _ => some (i : Int)) (fun k => by simp only [spec_l3Pass.l0]; rw [if_neg (by omega)]) (Ev.now _)
    refine ⟨⟨i, Nat.le_refl _, by omega, by rw [hn]; rfl, e0⟩, ⟨i, Nat.le_refl _, by omega, by rw [hn]; rfl, Ev.step (f := fun k => spec_l3Pass.l0 k s i) (fun k => by simp only [spec_l3Pass.l1]; rw [if_neg (by omega)]) e0⟩⟩
  | succ d ih =>
    intro i hi
    obtain ⟨c, r, hd, hr, hb⟩ := bt_cons s i (by omega)
    obtain ⟨⟨p0, a0, b0, c0, e0⟩, ⟨p1, a1, b1, c1, e1⟩⟩ := ih (i + 1) (by omega)
    rw [← hr] at c0 c1
    have hw : wrap64 ((i : Int) + 1) = ((i + 1 : Nat) : Int) := by rw [w64 _ (by omega) (by omega)]; omega
    have A : ∃ p : Nat, i ≤ p ∧ p ≤ s.size ∧ s.data.toList.drop p = passL false (s.data.toList.drop i) ∧ Ev (fun k => spec_l3Pass.l0 k s i) (p : Int) := by
      have st : ∀ p : Int, Ev (fun k => spec_l3Pass.j1 k s i (blankI (c.toNat : Int))) p → Ev (fun k => spec_l3Pass.l0 k s i) p := by
        intro p e
        refine Ev.step (fun k => ?_) e
        simp only [spec_l3Pass.l0]
        rw [if_pos (by omega), if_pos (by omega), hb]
        unfold blankI
        by_cases h1 : (c.toNat : Int) = 32
        · rw [if_pos h1, decide_eq_true h1]
          rfl
        rw [if_neg h1]
        by_cases h2 : (c.toNat : Int) = 9
        · rw [if_pos h2, decide_eq_true h2, decide_eq_false h1]
          rfl
        rw [if_neg h2]
        by_cases h3 : (c.toNat : Int) = 10
        · rw [if_pos h3, decide_eq_true h3, decide_eq_false h2, decide_eq_false h1]
          rfl
        rw [if_neg h3, decide_eq_false h1, decide_eq_false h2, decide_eq_false h3]
        simp only [Bool.false_or]
        congr 1
      rw [hd, passL]
      by_cases hk : blankI (c.toNat : Int) = true
      · rw [if_pos hk]
        refine ⟨p0, by omega, b0, c0, st _ ?_⟩
        rw [hk]
        refine Ev.step (fun k => ?_) e0
        simp only [spec_l3Pass.j1]
        rw [if_pos trivial, hw]
      · rw [if_neg hk]
        have hkf : blankI (c.toNat : Int) = false := by simpa using hk
        by_cases h37 : (c.toNat : Int) = 37
        · rw [if_pos h37]
          refine ⟨p1, by omega, b1, c1, st _ ?_⟩
          rw [hkf]
          refine Ev.step (f := fun k => spec_l3Pass.l1 k s i) (fun k => ?_) (Ev.step (fun k => ?_) e1)
          · simp only [spec_l3Pass.j1]
            rw [if_neg (by decide), if_pos (by omega), if_pos (by omega), hb, if_pos h37]
          · simp only [spec_l3Pass.l1]
            rw [if_pos (by omega), if_pos (by omega), hb, if_neg (by omega), hw]
        · rw [if_neg h37]
          refine ⟨i, Nat.le_refl _, by omega, hd, st _ ?_⟩
          rw [hkf]
          refine Ev.step (f := fun _ => some (i : Int)) (fun k => ?_) (Ev.now _)
          simp only [spec_l3Pass.j1]
          rw [if_neg (by decide), if_pos (by omega), if_pos (by omega), hb, if_neg h37]
    refine ⟨A, ?_⟩
    by_cases h10 : (c.toNat : Int) = 10
    · obtain ⟨p, a, b, e, e2⟩ := A
      refine ⟨p, a, b, ?_, Ev.step (f := fun k => spec_l3Pass.l0 k s i) (fun k => ?_) e2⟩
      · rw [e, hd, passL, passL, if_pos h10, if_pos (by unfold blankI; rw [h10]; decide)]
      · simp only [spec_l3Pass.l1]
        rw [if_pos (by omega), if_pos (by omega), hb, if_pos h10]
    · refine ⟨p1, by omega, b1, ?_, Ev.step (fun k => ?_) e1⟩
      · rw [hd, passL, if_neg h10, c1]
      · simp only [spec_l3Pass.l1]
        rw [if_pos (by omega), if_pos (by omega), hb, if_neg h10, hw]
theorem spec_run (s : ByteArray) (hs : s.size ≤ 140737488351232) (x2 x3 : Bool) (d : Nat) : ∀ i : Nat, i + d = s.size → Ev (fun k => spec_l3Run.l0 k s i x2 x3) ((i + (wordL x2 x3 (s.data.toList.drop i)).length : Nat) : Int) := by
  induction d with
  | zero =>
    intro i hi
    have hn : s.data.toList.drop i = [] := List.drop_eq_nil_of_le (by rw [← size_len]; omega)
    rw [hn]
    refine Ev.step (f := fun _ => some (i : Int)) (fun k => by simp only [spec_l3Run.l0]; rw [if_neg (by omega)]) (Ev.now _)
  | succ d ih =>
    intro i hi
    obtain ⟨c, r, hd, hr, hb⟩ := bt_cons s i (by omega)
    have hw : wrap64 ((i : Int) + 1) = ((i + 1 : Nat) : Int) := by rw [w64 _ (by omega) (by omega)]; omega
    have hc := c.toNat_lt
    have hD := spec_l3Digit_eq (c.toNat : Int) (by omega) (by omega)
    have hS := spec_l3Small_eq (c.toNat : Int) (by omega) (by omega)
    have hL := spec_l3Large_eq (c.toNat : Int) (by omega) (by omega)
    have key : ∀ k, spec_l3Run.l0 (k + 1) s i x2 x3 = if runP x2 x3 (c.toNat : Int) = true then spec_l3Run.l0 k s ((i + 1 : Nat) : Int) x2 x3 else some (i : Int) := by
      intro k
      simp only [spec_l3Run.l0]
      rw [if_pos (by omega), if_pos (by omega), hb, hD, hS, hL, hw]
      simp only [Option.bind_some]
      unfold runP
      generalize digB (c.toNat : Int) = q1
      generalize lowB (c.toNat : Int) = q2
      generalize largeB (c.toNat : Int) = q3
      by_cases h95 : (c.toNat : Int) = 95
      · rw [decide_eq_true h95, if_pos h95]
        cases q1 <;> cases x2 <;> cases x3 <;> cases q2 <;> cases q3 <;> rfl
      · rw [decide_eq_false h95, if_neg h95]
        cases q1 <;> cases x2 <;> cases x3 <;> cases q2 <;> cases q3 <;> rfl
    rw [hd]
    unfold wordL
    rw [List.takeWhile_cons]
    by_cases hp : runP x2 x3 (c.toNat : Int) = true
    · rw [if_pos hp, List.length_cons]
      have e := ih (i + 1) (by omega)
      rw [← hr] at e
      unfold wordL at e
      refine Ev.step (fun k => ?_) (ev_cast (by omega) e)
      rw [key, if_pos hp]
    · rw [if_neg hp]
      refine Ev.step (f := fun _ => some (i : Int)) (fun k => ?_) (Ev.now _)
      rw [key, if_neg hp]
theorem spec_num_loop (w : ByteArray) (hw : w.size ≤ 13) (hd : ∀ c ∈ w.data.toList, digB (c.toNat : Int) = true) (d : Nat) : ∀ (i : Nat) (acc : Nat), i + d = w.size → (acc + 1) * 10 ^ d ≤ 10000000000000 → Ev (fun k => spec_l3Number.l0 k w (acc : Int) i) (numFrom acc (w.data.toList.drop i) : Int) := by
  induction d with
  | zero =>
    intro i acc hi hb
    have hn : w.data.toList.drop i = [] := List.drop_eq_nil_of_le (by rw [← size_len]; omega)
    rw [hn]
    exact Ev.step (f := fun _ => some (acc : Int)) (fun k => by simp only [spec_l3Number.l0]; rw [if_neg (by omega)]) (Ev.now _)
  | succ d ih =>
    intro i acc hi hb
    obtain ⟨c, r, hdr, hr, hb2⟩ := bt_cons w i (by omega)
    have hc := c.toNat_lt
    have hdc := hd c (List.mem_of_mem_drop (by rw [hdr]; exact List.mem_cons_self))
    have hD := spec_l3Digit_eq (c.toNat : Int) (by omega) (by omega)
    have hdc2 := hdc
    unfold digB at hdc2
    simp only [Bool.and_eq_true, decide_eq_true_eq] at hdc2
    have h10 : (acc + 1) * 10 ^ (d + 1) = (acc + 1) * 10 * 10 ^ d := by rw [Nat.pow_succ, Nat.mul_comm (10 ^ d) 10, Nat.mul_assoc]
    have hp : 1 ≤ 10 ^ d := Nat.one_le_pow _ _ (by omega)
    have hb3 : (acc + 1) * 10 ≤ 10000000000000 := Nat.le_trans (Nat.le_mul_of_pos_right _ hp) (h10 ▸ hb)
    have hb4 : (acc * 10 + (c.toNat - 48) + 1) * 10 ^ d ≤ 10000000000000 := Nat.le_trans (Nat.mul_le_mul_right _ (by omega)) (h10 ▸ hb)
    have e := ih (i + 1) (acc * 10 + (c.toNat - 48)) (by omega) hb4
    rw [hdr]
    have e2 : numFrom acc (c :: r) = numFrom (acc * 10 + (c.toNat - 48)) r := rfl
    rw [e2, hr]
    refine Ev.step (fun k => ?_) e
    simp only [spec_l3Number.l0]
    rw [if_pos (by omega), if_pos (by omega), hb2, hD]
    simp only [Option.bind_some]
    rw [if_pos hdc]
    have a1 : wrap64 ((wrap64 ((acc : Int) * 10)) + (((c.toNat : Int) - 48) % 256)) = ((acc * 10 + (c.toNat - 48) : Nat) : Int) := by
      rw [w64 ((acc : Int) * 10) (by omega) (by omega), w64 _ (by omega) (by omega)]
      omega
    have a2 : wrap64 ((i : Int) + 1) = ((i + 1 : Nat) : Int) := by rw [w64 _ (by omega) (by omega)]; omega
    rw [a1, a2]
theorem spec_num_ev (w : ByteArray) (hw : w.size ≤ 140737488351232) (hd : ∀ c ∈ w.data.toList, digB (c.toNat : Int) = true) (hn : 1 ≤ w.size) : ∃ v : Int, Ev (fun k => spec_l3Number.f k w) v ∧ tokOkM 1 v ⟨#[]⟩ = numOk w.data.toList ∧ (numOk w.data.toList = true → v = (decVal w.data.toList : Int)) := by
  have tok : ∀ v : Int, tokOkM 1 v ⟨#[]⟩ = (decide (0 ≤ v) && decide (v ≤ 1000000000000)) := by
    intro v
    unfold tokOkM
    rw [if_pos rfl]
    simp
  have hlen := size_len w
  have bad : Ev (fun k => spec_l3Number.j0 k w true) (-1) := Ev.step (f := fun _ => some (-1)) (fun k => by simp only [spec_l3Number.j0]; rw [if_pos trivial]) (Ev.now _)
  unfold spec_l3Number.f
  by_cases h13 : w.size ≤ 13
  · have e1 : spec_l1In.f (w.size : Int) 1 13 = some true := by rw [spec_l1In_eq]; simp; omega
    have good : Ev (fun k => spec_l3Number.j0 k w false) (decVal w.data.toList : Int) := by
      have e := spec_num_loop w h13 hd w.size 0 0 (by omega) (by
        have : (10 : Nat) ^ w.size ≤ 10 ^ 13 := Nat.pow_le_pow_right (by omega) h13
        omega)
      rw [List.drop_zero] at e
      exact Ev.step (fun k => by simp only [spec_l3Number.j0]; rw [if_neg (by decide)]; rfl) e
    obtain ⟨c, r, hdr, hr, hb⟩ := bt_cons w 0 (by omega)
    rw [List.drop_zero] at hdr
    have hz : (bt w 0 == 48) = decide (w.data.toList.head? = some 48) := by
      have hb' : bt w 0 = (c.toNat : Int) := hb
      rw [hb', hdr, Bool.eq_iff_iff, beq_iff_eq, decide_eq_true_eq]
      simp only [List.head?_cons, Option.some.injEq]
      constructor
      · intro h
        apply UInt8.toNat_inj.1
        show c.toNat = 48
        omega
      · rintro rfl; rfl
    by_cases h1 : (w.size : Int) > 1
    · by_cases h48 : w.data.toList.head? = some 48
      · refine ⟨-1, Ev.bind (ev_of e1) (ev_pos rfl (ev_pos h1 (ev_pos (by omega) ?_))), ?_, ?_⟩
        · rw [hz, decide_eq_true h48]; exact bad
        · rw [tok]
          unfold numOk
          rw [decide_eq_true h48, decide_eq_false (show ¬ w.data.toList.length ≤ 1 by omega)]
          simp
        · intro h
          unfold numOk at h
          rw [decide_eq_true h48, decide_eq_false (show ¬ w.data.toList.length ≤ 1 by omega)] at h
          simp at h
      · refine ⟨_, Ev.bind (ev_of e1) (ev_pos rfl (ev_pos h1 (ev_pos (by omega) ?_))), ?_, fun _ => rfl⟩
        · rw [hz, decide_eq_false h48]; exact good
        · rw [tok]
          unfold numOk
          rw [decide_eq_false h48, decide_eq_true (show w.data.toList.length ≤ 13 by omega), decide_eq_true (show (0 : Int) ≤ (decVal w.data.toList : Int) by omega)]
          simp
          omega
    · refine ⟨_, Ev.bind (ev_of e1) (ev_pos rfl (ev_neg h1 good)), ?_, fun _ => rfl⟩
      rw [tok]
      unfold numOk
      rw [decide_eq_true (show w.data.toList.length ≤ 1 by omega), decide_eq_true (show w.data.toList.length ≤ 13 by omega), decide_eq_true (show (0 : Int) ≤ (decVal w.data.toList : Int) by omega)]
      simp
      omega
  · have e1 : spec_l1In.f (w.size : Int) 1 13 = some false := by rw [spec_l1In_eq]; simp; omega
    refine ⟨-1, Ev.bind (ev_of e1) (ev_neg (by decide) bad), ?_, ?_⟩
    · rw [tok]
      unfold numOk
      rw [decide_eq_false (show ¬ w.data.toList.length ≤ 13 by omega)]
      simp
    · intro h
      unfold numOk at h
      rw [decide_eq_false (show ¬ w.data.toList.length ≤ 13 by omega)] at h
      simp at h
theorem spec_one (s : ByteArray) (hs : s.size ≤ 1048700) (i : Nat) (h : i < s.size) : i + (oneM (s.data.toList.drop i)).n ≤ s.size ∧ ∃ b' : Int, Ev (fun k => spec_l3One.f k s i) ((oneM (s.data.toList.drop i)).a, b', (oneM (s.data.toList.drop i)).s, ((i + (oneM (s.data.toList.drop i)).n : Nat) : Int)) ∧ tokOkM (oneM (s.data.toList.drop i)).a b' (oneM (s.data.toList.drop i)).s = (oneM (s.data.toList.drop i)).ok ∧ ((oneM (s.data.toList.drop i)).ok = true → b' = (oneM (s.data.toList.drop i)).b) := by
  obtain ⟨c, r, hd, hr, hb⟩ := bt_cons s i h
  have hc := c.toNat_lt
  have hD := spec_l3Digit_eq (c.toNat : Int) (by omega) (by omega)
  have hS := spec_l3Small_eq (c.toNat : Int) (by omega) (by omega)
  have hL := spec_l3Large_eq (c.toNat : Int) (by omega) (by omega)
  have hrl : r.length = s.size - (i + 1) := by rw [hr, List.length_drop, ← size_len]
  have W : ∀ x2 x3, i + (wordL x2 x3 (c :: r)).length ≤ s.size := by
    intro x2 x3
    have := word_le s i x2 x3
    rw [hd] at this
    omega
  have R : ∀ x2 x3, Ev (fun k => spec_l3Run.f k s i x2 x3) ((i + (wordL x2 x3 (c :: r)).length : Nat) : Int) := by
    intro x2 x3
    have := spec_run s (by omega) x2 x3 (s.size - i) i (by omega)
    rw [hd] at this
    exact this
  have C : ∀ x2 x3, s.extract i (i + (wordL x2 x3 (c :: r)).length) = ⟨(wordL x2 x3 (c :: r)).toArray⟩ := by
    intro x2 x3
    have := word_cut s i x2 x3
    rw [hd] at this
    exact this
  unfold spec_l3One.f
  rw [hb, hd, oneM]
  by_cases h1 : digB (c.toNat : Int) = true
  · rw [if_pos h1]
    have hw1 := W false false
    have hpos := wordL_pos false false c r (by unfold runP; rw [h1]; rfl)
    obtain ⟨v, ev, ht, hv⟩ := spec_num_ev ⟨(wordL false false (c :: r)).toArray⟩ (by rw [ba_size]; omega) (fun x hx => by
      have := wordL_all false false (c :: r) x (by simpa using hx)
      unfold runP at this
      simpa using this) (by rw [ba_size]; exact hpos)
    refine ⟨hw1, v, ?_, ht, hv⟩
    refine ev_pos (by omega) (ev_pos (by omega) (Ev.bind (ev_of hD) (ev_pos h1 (Ev.bind (R false false) (ev_pos (by omega) (ev_pos (by omega) ?_))))))
    rw [Int.toNat_natCast, Int.toNat_natCast, C]
    exact Ev.bind ev (Ev.now _)
  rw [if_neg h1]
  by_cases h2 : lowB (c.toNat : Int) = true
  · rw [if_pos h2]
    have hw1 := W true false
    refine ⟨hw1, 0, ?_, tok2 _, fun _ => rfl⟩
    refine ev_pos (by omega) (ev_pos (by omega) (Ev.bind (ev_of hD) (ev_neg h1 (Ev.bind (ev_of hS) (ev_pos h2 (Ev.bind (R true false) (ev_pos (by omega) (ev_pos (by omega) ?_))))))))
    rw [Int.toNat_natCast, Int.toNat_natCast, C]
    exact Ev.now _
  rw [if_neg h2]
  by_cases h3 : largeB (c.toNat : Int) = true
  · rw [if_pos h3]
    have hw1 := W true true
    refine ⟨hw1, 0, ?_, tok3 _, fun _ => rfl⟩
    refine ev_pos (by omega) (ev_pos (by omega) (Ev.bind (ev_of hD) (ev_neg h1 (Ev.bind (ev_of hS) (ev_neg h2 (Ev.bind (ev_of hL) (ev_pos h3 (Ev.bind (R true true) (ev_pos (by omega) (ev_pos (by omega) ?_))))))))))
    rw [Int.toNat_natCast, Int.toNat_natCast, C]
    exact Ev.now _
  rw [if_neg h3]
  have w1 : wrap64 ((i : Int) + 1) = ((i + 1 : Nat) : Int) := by rw [w64 _ (by omega) (by omega)]; omega
  have w2 : wrap64 ((i : Int) + 2) = ((i + 2 : Nat) : Int) := by rw [w64 _ (by omega) (by omega)]; omega
  have c1 : s.extract i (i + 1) = ⟨[c].toArray⟩ := by
    apply ba_mk
    rw [cut_list, Nat.add_sub_cancel_left, hd]; rfl
  have c2 : s.extract i (i + 2) = ⟨((c :: r).take 2).toArray⟩ := by
    apply ba_mk
    rw [cut_list, Nat.add_sub_cancel_left, hd]
  have e2 : Ev (fun k => spec_l3MarkOk.f k ⟨((c :: r).take 2).toArray⟩) (markOkL ((c :: r).take 2)) := by
    have := spec_l3MarkOk_ev ⟨((c :: r).take 2).toArray⟩
    simpa using this
  rw [w1, w2, Int.toNat_natCast, Int.toNat_natCast, Int.toNat_natCast, c1, c2]
  by_cases h4 : markOkL ((c :: r).take 2) = true ∧ 1 ≤ r.length
  · rw [if_pos h4]
    refine ⟨by show i + 2 ≤ s.size; omega, 0, ?_, (tok4 _).trans h4.1, fun _ => rfl⟩
    exact ev_pos (by omega) (ev_pos (by omega) (Ev.bind (ev_of hD) (ev_neg h1 (Ev.bind (ev_of hS) (ev_neg h2 (Ev.bind (ev_of hL) (ev_neg h3 (ev_pos (by omega) (ev_pos (by omega) (ev_pos (by omega) (Ev.bind e2 (ev_pos h4.1 (Ev.now _)))))))))))))
  · rw [if_neg h4]
    refine ⟨by show i + 1 ≤ s.size; omega, 0, ?_, tok4 _, fun _ => rfl⟩
    by_cases h5 : 1 ≤ r.length
    · have h6 : ¬ markOkL ((c :: r).take 2) = true := fun e => h4 ⟨e, h5⟩
      exact ev_pos (by omega) (ev_pos (by omega) (Ev.bind (ev_of hD) (ev_neg h1 (Ev.bind (ev_of hS) (ev_neg h2 (Ev.bind (ev_of hL) (ev_neg h3 (ev_pos (by omega) (ev_pos (by omega) (ev_pos (by omega) (Ev.bind e2 (ev_neg h6 (ev_pos (by omega) (ev_pos (by omega) (Ev.now _)))))))))))))))
    · exact ev_pos (by omega) (ev_pos (by omega) (Ev.bind (ev_of hD) (ev_neg h1 (Ev.bind (ev_of hS) (ev_neg h2 (Ev.bind (ev_of hL) (ev_neg h3 (ev_neg (by omega) (ev_pos (by omega) (ev_pos (by omega) (Ev.now _)))))))))))
theorem one_size (L : List UInt8) : (oneM L).s.size ≤ L.length := by
  have wl : ∀ x2 x3 (L : List UInt8), (wordL x2 x3 L).length ≤ L.length := fun x2 x3 L => (List.takeWhile_prefix _).length_le
  cases L with
  | nil => exact Nat.le_refl _
  | cons c r =>
    rw [oneM]
    split
    · exact Nat.zero_le _
    split
    · have := wl true false (c :: r); simpa [ByteArray.size] using this
    split
    · have := wl true true (c :: r); simpa [ByteArray.size] using this
    split
    · show (((c :: r).take 2).toArray).size ≤ _
      rw [List.size_toArray]
      refine Nat.le_trans (List.length_take_le _ _) ?_
      rename_i h
      have := h.2
      rw [List.length_cons]; omega
    · show 1 ≤ _
      rw [List.length_cons]; omega
theorem spec_Lex_loop (s : ByteArray) (hs : s.size ≤ 1048700) (d : Nat) : ∀ (i : Nat) (acc : List S42), s.size - i ≤ d → i ≤ s.size → acc.length ≤ 2000 → Ev (fun k => spec_Lex.l0 k s acc i) (lexN s.size (s.data.toList.drop i) acc) := by
  induction d with
  | zero =>
    intro i acc hi h1 h2
    have hn : s.data.toList.drop i = [] := List.drop_eq_nil_of_le (by rw [← size_len]; omega)
    rw [hn, lexN_nil]
    exact Ev.step (f := fun _ => some (acc, -1)) (fun k => by simp only [spec_Lex.l0]; rw [if_neg (by omega)]) (Ev.now _)
  | succ d ih =>
    intro i acc hi h1 h2
    by_cases hlt : i < s.size
    · obtain ⟨hn, b', e1, ht, hbv⟩ := spec_one s hs i hlt
      have hsz := one_size (s.data.toList.drop i)
      rw [List.length_drop, ← size_len] at hsz
      have e2 := spec_TokenOk_ev (oneM (s.data.toList.drop i)).a b' (oneM (s.data.toList.drop i)).s (by omega)
      rw [ht] at e2
      obtain ⟨c, r, hd, hr, hb⟩ := bt_cons s i hlt
      have hlen : (s.data.toList.drop i).length = s.size - i := by rw [List.length_drop, ← size_len]
      have hN : lexN s.size (s.data.toList.drop i) acc = if (oneM (s.data.toList.drop i)).ok = true then (if acc.length = 2000 then ([], (s.size : Int) - (s.data.toList.drop i).length) else lexN s.size (passL false ((s.data.toList.drop i).drop (oneM (s.data.toList.drop i)).n)) (acc ++ [⟨(oneM (s.data.toList.drop i)).a, (oneM (s.data.toList.drop i)).b, (oneM (s.data.toList.drop i)).s⟩])) else ([], (s.size : Int) - (s.data.toList.drop i).length) := by
        rw [hd]; exact lexN_cons s.size c r acc
      have hpos : 1 ≤ (oneM (s.data.toList.drop i)).n := by rw [hd]; exact oneM_pos c r
      rw [hN, List.drop_drop]
      have hx : (s.size : Int) - (s.data.toList.drop i).length = (i : Int) := by rw [hlen]; omega
      rw [hx]
      obtain ⟨⟨p, p1, p2, p3, e3⟩, _⟩ := spec_pass s (by omega) (s.size - (i + (oneM (s.data.toList.drop i)).n)) (i + (oneM (s.data.toList.drop i)).n) (by omega)
      rw [← p3]
      generalize oneM (s.data.toList.drop i) = O at *
      refine Ev.step (f := fun k => (spec_l3One.f k s i).bind fun bt140 => ((spec_TokenOk.f k bt140.1 bt140.2.1 bt140.2.2.1).bind fun t145 => (if t145 = true then (if (acc.length : Int) = 2000 then (some ((([] : List S42)), (i : Int))) else (if acc.length < 4398046511104 then ((spec_l3Pass.f k s bt140.2.2.2).bind fun t152 => (spec_Lex.l0 k s (acc ++ [(⟨bt140.1, bt140.2.1, bt140.2.2.1⟩ : S42)]) t152)) else (none))) else (some ((([] : List S42)), (i : Int)))))) (fun k => by simp only [spec_Lex.l0]; rw [if_pos (by omega)]) ?_
      refine Ev.bind e1 (Ev.bind e2 ?_)
      by_cases hok : O.ok = true
      · rw [hbv hok] at *
        refine ev_cast (if_pos hok).symm (ev_pos hok ?_)
        by_cases hfull : acc.length = 2000
        · exact ev_cast (if_pos hfull).symm (ev_pos (by omega) (Ev.now _))
        · refine ev_cast (if_neg hfull).symm (ev_neg (by omega) (ev_pos (by omega) ?_))
          refine Ev.bind (g := fun k => spec_l3Pass.f k s ((i + O.n : Nat) : Int)) e3 ?_
          exact ih p _ (by omega) p2 (by rw [List.length_append, List.length_singleton]; omega)
      · exact ev_cast (if_neg hok).symm (ev_neg hok (Ev.now _))
    · exact ih i acc (by omega) h1 h2
theorem spec_Lex_ev (s : ByteArray) (hs : s.size ≤ 1048700) : Ev (fun k => spec_Lex.f k s) (lexN s.size (passL false s.data.toList) []) := by
  obtain ⟨⟨p, p1, p2, p3, e3⟩, _⟩ := spec_pass s (by omega) s.size 0 (by omega)
  rw [List.drop_zero] at p3
  rw [← p3]
  unfold spec_Lex.f
  refine Ev.bind (g := fun k => spec_l3Pass.f k s 0) e3 ?_
  exact spec_Lex_loop s hs (s.size - p) p [] (Nat.le_refl _) p2 (by simp)
theorem sameTokens_ev (l : List S42) (hl : (l.length : Int) ≤ 4194304) : Ev (fun k => laws_sameTokens.f k l l) true := by
  have loop : ∀ (d i : Nat), i + d = l.length → Ev (fun k => laws_sameTokens.l0 k l l i) true := by
    intro d
    induction d with
    | zero =>
      intro i hi
      exact Ev.step (f := fun _ => some true) (fun k => by simp only [laws_sameTokens.l0]; rw [if_neg (by omega)]) (Ev.now _)
    | succ d ih =>
      intro i hi
      refine Ev.step (fun k => ?_) (ih (i + 1) (by omega))
      simp only [laws_sameTokens.l0]
      rw [if_pos (by omega), if_pos (by omega), if_pos (by omega), if_neg (by simp), w64 _ (by omega) (by omega)]
      rfl
  unfold laws_sameTokens.f
  exact ev_pos rfl (loop l.length 0 (by omega))
structure TokQ (q : S42 × List UInt8) : Prop where
  ne : q.2 ≠ []
  sp : ∀ R : List UInt8, passL false (q.2 ++ 32 :: R) = q.2 ++ 32 :: R ∧ oneM (q.2 ++ 32 :: R) = ⟨q.1.f0, q.1.f1, q.1.f2, q.2.length, true⟩
  en : passL false (q.2 ++ []) = q.2 ++ [] ∧ oneM (q.2 ++ []) = ⟨q.1.f0, q.1.f1, q.1.f2, q.2.length, true⟩
  tx : (tkT q.1).data.toList = q.2
  sz : q.1.f2.size ≤ q.2.length
theorem pass_head {c : UInt8} {r : List UInt8} (h : passL false (c :: r) = c :: r) : ∀ R : List UInt8, passL false (c :: R) = c :: R := by
  have h1 : ¬ blankI (c.toNat : Int) = true := by
    intro hb
    rw [passL, if_pos hb] at h
    have := congrArg List.length h
    have q := passL_len r false
    rw [List.length_cons] at this
    omega
  have h2 : ¬ (c.toNat : Int) = 37 := by
    intro hb
    rw [passL, if_neg h1, if_pos hb] at h
    have := congrArg List.length h
    have q := passL_len r true
    rw [List.length_cons] at this
    omega
  intro R
  rw [passL, if_neg h1, if_neg h2]
theorem word_more (x2 x3 : Bool) (L R : List UInt8) (hR : ∀ c t, R = c :: t → runP x2 x3 (c.toNat : Int) = false) : wordL x2 x3 (wordL x2 x3 L ++ R) = wordL x2 x3 L := by
  have ha := wordL_all x2 x3 L
  generalize wordL x2 x3 L = w at ha
  induction w with
  | nil =>
    cases R with
    | nil => rfl
    | cons c t =>
      show wordL x2 x3 (c :: t) = []
      unfold wordL
      rw [List.takeWhile_cons, if_neg (by rw [hR c t rfl]; decide)]
  | cons c w ih =>
    have h1 := ha c List.mem_cons_self
    have h2 := ih (fun x hx => ha x (List.mem_cons_of_mem _ hx))
    rw [List.cons_append]
    unfold wordL at h2 ⊢
    rw [List.takeWhile_cons, if_pos h1, h2]
theorem word_app (x2 x3 : Bool) (L R : List UInt8) (hR : ∀ c t, R = c :: t → runP x2 x3 (c.toNat : Int) = false) : wordL x2 x3 (L ++ R) = wordL x2 x3 L := by
  induction L with
  | nil =>
    cases R with
    | nil => rfl
    | cons c t =>
      show wordL x2 x3 (c :: t) = []
      unfold wordL
      rw [List.takeWhile_cons, if_neg (by rw [hR c t rfl]; decide)]
  | cons c w ih =>
    rw [List.cons_append]
    unfold wordL at ih ⊢
    rw [List.takeWhile_cons, List.takeWhile_cons, ih]
theorem word_head (x2 x3 : Bool) (c : UInt8) (r : List UInt8) (h : runP x2 x3 (c.toNat : Int) = true) : ∃ t, wordL x2 x3 (c :: r) = c :: t := by
  unfold wordL
  rw [List.takeWhile_cons, if_pos h]
  exact ⟨_, rfl⟩
theorem oneM_word (x2 x3 : Bool) (c : UInt8) (r R : List UInt8) (h : runP x2 x3 (c.toNat : Int) = true) (hR : ∀ c t, R = c :: t → runP x2 x3 (c.toNat : Int) = false) : ∃ t, wordL x2 x3 (c :: r) ++ R = c :: t ∧ wordL x2 x3 (c :: t) = wordL x2 x3 (c :: r) := by
  obtain ⟨t, e⟩ := word_head x2 x3 c r h
  refine ⟨t ++ R, by rw [e]; rfl, ?_⟩
  have := word_more x2 x3 (c :: r) R hR
  rw [e] at this ⊢
  exact this
/-- A token's own text, followed by a blank or nothing, is read as that token. -/
theorem oneM_again (c : UInt8) (r : List UInt8) (hok : (oneM (c :: r)).ok = true) (R : List UInt8) (hR : R = [] ∨ ∃ R', R = 32 :: R') : oneM ((c :: r).take (oneM (c :: r)).n ++ R) = oneM (c :: r) := by
  have hRr : ∀ x2 x3, ∀ c t, R = c :: t → runP x2 x3 (c.toNat : Int) = false := by
    intro x2 x3 c t h
    rcases hR with rfl | ⟨R', rfl⟩
    · cases h
    · injection h with h _
      subst h
      cases x2 <;> cases x3 <;> rfl
  by_cases h1 : digB (c.toNat : Int) = true
  · have e : oneM (c :: r) = ⟨1, decVal (wordL false false (c :: r)), ⟨#[]⟩, (wordL false false (c :: r)).length, numOk (wordL false false (c :: r))⟩ := by rw [oneM, if_pos h1]
    obtain ⟨t, e1, e2⟩ := oneM_word false false c r R (by unfold runP; rw [h1]; rfl) (hRr _ _)
    rw [e]
    show oneM ((c :: r).take (wordL false false (c :: r)).length ++ R) = _
    rw [word_take, e1, oneM, if_pos h1, e2]
  by_cases h2 : lowB (c.toNat : Int) = true
  · have e : oneM (c :: r) = ⟨2, 0, ⟨(wordL true false (c :: r)).toArray⟩, (wordL true false (c :: r)).length, atomOkM ⟨(wordL true false (c :: r)).toArray⟩⟩ := by rw [oneM, if_neg h1, if_pos h2]
    obtain ⟨t, e1, e2⟩ := oneM_word true false c r R (by unfold runP; rw [h2]; simp) (hRr _ _)
    rw [e]
    show oneM ((c :: r).take (wordL true false (c :: r)).length ++ R) = _
    rw [word_take, e1, oneM, if_neg h1, if_pos h2, e2]
  by_cases h3 : largeB (c.toNat : Int) = true
  · have e : oneM (c :: r) = ⟨3, 0, ⟨(wordL true true (c :: r)).toArray⟩, (wordL true true (c :: r)).length, varOkM ⟨(wordL true true (c :: r)).toArray⟩⟩ := by rw [oneM, if_neg h1, if_neg h2, if_pos h3]
    obtain ⟨t, e1, e2⟩ := oneM_word true true c r R (by unfold runP; rw [h3]; simp) (hRr _ _)
    rw [e]
    show oneM ((c :: r).take (wordL true true (c :: r)).length ++ R) = _
    rw [word_take, e1, oneM, if_neg h1, if_neg h2, if_pos h3, e2]
  by_cases h4 : markOkL ((c :: r).take 2) = true ∧ 1 ≤ r.length
  · have e : oneM (c :: r) = ⟨4, 0, ⟨((c :: r).take 2).toArray⟩, 2, true⟩ := by rw [oneM, if_neg h1, if_neg h2, if_neg h3, if_pos h4]
    rw [e]
    show oneM ((c :: r).take 2 ++ R) = _
    obtain ⟨d, r', rfl⟩ : ∃ d r', r = d :: r' := List.exists_cons_of_ne_nil (by rintro rfl; exact absurd h4.2 (by decide))
    show oneM (c :: d :: R) = _
    rw [oneM, if_neg h1, if_neg h2, if_neg h3, if_pos ⟨h4.1, by rw [List.length_cons]; omega⟩]
    rfl
  · have e : oneM (c :: r) = ⟨4, 0, ⟨[c].toArray⟩, 1, markOkL [c]⟩ := by rw [oneM, if_neg h1, if_neg h2, if_neg h3, if_neg h4]
    rw [e]
    show oneM (c :: R) = _
    rw [oneM, if_neg h1, if_neg h2, if_neg h3, if_neg]
    intro h
    rcases hR with rfl | ⟨R', rfl⟩
    · exact absurd h.2 (by decide)
    · rcases (mark_two c (32 :: R')).1 h with q | q
      · simp at q
      · simp at q
theorem oneM_nl (c : UInt8) (r : List UInt8) : oneM (c :: (r ++ [10])) = oneM (c :: r) := by
  have hRr : ∀ x2 x3, ∀ c t, ([10] : List UInt8) = c :: t → runP x2 x3 (c.toNat : Int) = false := by
    intro x2 x3 c t h
    injection h with h _
    subst h
    cases x2 <;> cases x3 <;> rfl
  have hw : ∀ x2 x3, wordL x2 x3 (c :: (r ++ [10])) = wordL x2 x3 (c :: r) := fun x2 x3 => word_app x2 x3 (c :: r) [10] (hRr x2 x3)
  rw [oneM, oneM, hw, hw, hw]
  have hm : (markOkL ((c :: (r ++ [10])).take 2) = true ∧ 1 ≤ (r ++ [10]).length) ↔ (markOkL ((c :: r).take 2) = true ∧ 1 ≤ r.length) := by
    cases r with
    | nil =>
      constructor
      · intro h
        rcases (mark_two c ([] ++ [10])).1 h with q | q
        · simp at q
        · simp at q
      · intro h
        exact absurd h.2 (by decide)
    | cons d r =>
      constructor
      · intro h; exact ⟨h.1, by rw [List.length_cons]; omega⟩
      · intro h; exact ⟨h.1, by rw [List.length_append, List.length_cons]; omega⟩
  by_cases h4 : markOkL ((c :: r).take 2) = true ∧ 1 ≤ r.length
  · rw [if_pos h4, if_pos (hm.2 h4)]
    have : (c :: (r ++ [10])).take 2 = (c :: r).take 2 := by
      cases r with
      | nil => exact absurd h4.2 (by decide)
      | cons d r => rfl
    rw [this]
  · rw [if_neg h4, if_neg (fun q => h4 (hm.1 q))]
theorem tokQ_of (c : UInt8) (r : List UInt8) (hp : passL false (c :: r) = c :: r) (hok : (oneM (c :: r)).ok = true) : TokQ (⟨(oneM (c :: r)).a, (oneM (c :: r)).b, (oneM (c :: r)).s⟩, (c :: r).take (oneM (c :: r)).n) := by
  have hpos := oneM_pos c r
  have hle := oneM_le (c :: r)
  have hl : ((c :: r).take (oneM (c :: r)).n).length = (oneM (c :: r)).n := by rw [List.length_take]; omega
  obtain ⟨t, ht⟩ : ∃ t, (c :: r).take (oneM (c :: r)).n = c :: t := by
    obtain ⟨m, hm⟩ : ∃ m, (oneM (c :: r)).n = m + 1 := ⟨(oneM (c :: r)).n - 1, by omega⟩
    rw [hm]
    exact ⟨_, rfl⟩
  have hphead := pass_head hp
  have one : ∀ R, (R = [] ∨ ∃ R', R = 32 :: R') → passL false ((c :: r).take (oneM (c :: r)).n ++ R) = (c :: r).take (oneM (c :: r)).n ++ R ∧ oneM ((c :: r).take (oneM (c :: r)).n ++ R) = ⟨(oneM (c :: r)).a, (oneM (c :: r)).b, (oneM (c :: r)).s, ((c :: r).take (oneM (c :: r)).n).length, true⟩ := by
    intro R hR
    refine ⟨by rw [ht]; exact hphead (t ++ R), ?_⟩
    rw [oneM_again c r hok R hR, hl, ← hok]
  have hw : ∀ x2 x3, (c :: r).take (wordL x2 x3 (c :: r)).length = wordL x2 x3 (c :: r) := fun x2 x3 => word_take x2 x3 _
  have txsz : (tkT ⟨(oneM (c :: r)).a, (oneM (c :: r)).b, (oneM (c :: r)).s⟩).data.toList = (c :: r).take (oneM (c :: r)).n ∧ (oneM (c :: r)).s.size ≤ (oneM (c :: r)).n := by
    clear one ht hl
    rw [oneM] at hok ⊢
    unfold tkT tokTextM
    by_cases h1 : digB (c.toNat : Int) = true
    · simp only [if_pos h1] at hok ⊢
      rw [hw]
      have hn := hok
      unfold numOk at hn
      simp only [Bool.and_eq_true, Bool.or_eq_true, Bool.not_eq_true', decide_eq_true_eq, decide_eq_false_iff_not] at hn
      obtain ⟨n1, n2, n3⟩ := hn
      have hd : ∀ x ∈ wordL false false (c :: r), digB (x.toNat : Int) = true := by
        intro x hx
        have := wordL_all false false (c :: r) x hx
        unfold runP at this
        simpa using this
      have hto : tokOkM 1 (decVal (wordL false false (c :: r)) : Int) ⟨#[]⟩ = true := by
        unfold tokOkM
        rw [if_pos rfl]
        simp
        omega
      rw [if_pos hto, if_pos trivial, Go.Lib.itoa_nonneg]
      refine ⟨?_, Nat.zero_le _⟩
      obtain ⟨u, hu⟩ := word_head false false c r (by unfold runP; rw [h1]; rfl)
      exact dec_back _ _ rfl hd (by rw [hu]; simp) n2
    simp only [if_neg h1] at hok ⊢
    by_cases h2 : lowB (c.toNat : Int) = true
    · simp only [if_pos h2] at hok ⊢
      rw [hw, if_pos (by rw [tok2]; exact hok), if_neg (by decide)]
      exact ⟨rfl, by simp [ByteArray.size]⟩
    simp only [if_neg h2] at hok ⊢
    by_cases h3 : largeB (c.toNat : Int) = true
    · simp only [if_pos h3] at hok ⊢
      rw [hw, if_pos (by rw [tok3]; exact hok), if_neg (by decide)]
      exact ⟨rfl, by simp [ByteArray.size]⟩
    simp only [if_neg h3] at hok ⊢
    by_cases h4 : markOkL ((c :: r).take 2) = true ∧ 1 ≤ r.length
    · simp only [if_pos h4] at hok ⊢
      rw [if_pos (by rw [tok4]; exact h4.1), if_neg (by decide)]
      exact ⟨rfl, by simp [ByteArray.size]; omega⟩
    · simp only [if_neg h4] at hok ⊢
      rw [if_pos (by rw [tok4]; exact hok), if_neg (by decide)]
      exact ⟨rfl, Nat.le_refl _⟩
  exact ⟨by rw [ht]; simp, fun R => one _ (.inr ⟨R, rfl⟩), one _ (.inl rfl), txsz.1, by rw [hl]; exact txsz.2⟩
theorem lex_pairs (sz : Nat) : ∀ (n : Nat) (L : List UInt8) (acc : List S42), L.length < n → L.length ≤ sz → passL false L = L → acc.length ≤ 2000 → (lexL sz n L acc).2 = -1 → ∃ P : List (S42 × List UInt8), (∀ q ∈ P, TokQ q) ∧ (lexL sz n L acc).1 = acc ++ P.map Prod.fst ∧ acc.length + P.length ≤ 2000 ∧ sumB (fun q => q.2.length) P ≤ L.length := by
  intro n
  induction n with
  | zero => intro L acc h; omega
  | succ n ih =>
    intro L acc h1 h2 hp h3 hr
    cases L with
    | nil => exact ⟨[], fun q hq => (by cases hq), (by rw [List.map_nil, List.append_nil]; rfl), (by simpa using h3), Nat.zero_le _⟩
    | cons c r =>
      rw [lexL] at hr ⊢
      by_cases hok : (oneM (c :: r)).ok = true
      · rw [if_pos hok] at hr ⊢
        by_cases hfull : acc.length = 2000
        · rw [if_pos hfull] at hr
          simp only at hr
          omega
        · rw [if_neg hfull] at hr ⊢
          have hpos := oneM_pos c r
          have hle := oneM_le (c :: r)
          have hl := passL_len ((c :: r).drop (oneM (c :: r)).n) false
          have hlc : (c :: r).length = r.length + 1 := rfl
          rw [List.length_drop] at hl
          obtain ⟨P, p1, p2, p3, p4⟩ := ih _ _ (by omega) (by omega) (passL_idem _ _) (by rw [List.length_append, List.length_singleton]; omega) hr
          have hq := tokQ_of c r hp hok
          refine ⟨(⟨(oneM (c :: r)).a, (oneM (c :: r)).b, (oneM (c :: r)).s⟩, (c :: r).take (oneM (c :: r)).n) :: P, ?_, ?_, ?_, ?_⟩
          · intro q hq2
            rcases List.mem_cons.1 hq2 with rfl | hq2
            · exact hq
            · exact p1 q hq2
          · rw [p2, List.map_cons, List.append_assoc]; rfl
          · rw [List.length_append, List.length_singleton] at p3
            rw [List.length_cons]; omega
          · rw [sumB]
            show ((c :: r).take (oneM (c :: r)).n).length + _ ≤ _
            rw [List.length_take]
            omega
      · rw [if_neg hok] at hr
        simp only at hr
        omega
theorem lex_roundQ (sz : Nat) : ∀ (l : List (S42 × List UInt8)) (acc : List S42), (∀ q ∈ l, TokQ q) → acc.length + l.length ≤ 2000 → lexN sz (passL false (Go.Lib.join (l.map Prod.snd) [32])) acc = (acc ++ l.map Prod.fst, -1)
  | [], acc, _, _ => by
    have : passL false (Go.Lib.join (([] : List (S42 × List UInt8)).map Prod.snd) [32]) = [] := rfl
    rw [this, lexN_nil, List.map_nil, List.append_nil]
  | q :: l, acc, h, hl => by
    have hq := h q List.mem_cons_self
    rw [List.length_cons] at hl
    have key : ∀ R : List UInt8, passL false (q.2 ++ R) = q.2 ++ R → oneM (q.2 ++ R) = ⟨q.1.f0, q.1.f1, q.1.f2, q.2.length, true⟩ → lexN sz (passL false (q.2 ++ R)) acc = lexN sz (passL false R) (acc ++ [q.1]) := by
      intro R h1 h2
      rw [h1]
      obtain ⟨c, t, hc⟩ := List.exists_cons_of_ne_nil hq.ne
      have e : q.2 ++ R = c :: (t ++ R) := by rw [hc]; rfl
      have hd : (q.2 ++ R).drop q.2.length = R := List.drop_left
      rw [e] at h2 hd ⊢
      rw [lexN_cons, h2, if_pos rfl, if_neg (by omega), hd]
    cases l with
    | nil =>
      rw [List.map_cons, List.map_nil, Go.Lib.join_cons]
      obtain ⟨h1, h2⟩ := hq.en
      have e : Go.Lib.joinTail [32] [] = [] := rfl
      rw [e, key [] h1 h2]
      rfl
    | cons q2 l =>
      have ih := lex_roundQ sz (q2 :: l) (acc ++ [q.1]) (fun x hx => h x (List.mem_cons_of_mem _ hx)) (by rw [List.length_append, List.length_singleton]; omega)
      have e : Go.Lib.join ((q :: q2 :: l).map Prod.snd) [32] = q.2 ++ 32 :: Go.Lib.join ((q2 :: l).map Prod.snd) [32] := by
        rw [List.map_cons, Go.Lib.join_cons, List.map_cons, Go.Lib.join_cons]
        unfold Go.Lib.joinTail
        simp
      obtain ⟨h1, h2⟩ := hq.sp (Go.Lib.join ((q2 :: l).map Prod.snd) [32])
      rw [e, key _ h1 h2]
      have e2 : ∀ J : List UInt8, passL false (32 :: J) = passL false J := fun J => by rw [passL, if_pos (by decide)]
      rw [e2, ih, List.append_assoc]
      rfl
theorem lexL_fail (sz : Nat) : ∀ (n : Nat) (L : List UInt8) (acc : List S42), (lexL sz n L acc).2 = -1 ∨ (lexL sz n L acc).1 = [] := by
  intro n
  induction n with
  | zero => intro L acc; exact .inl rfl
  | succ n ih =>
    intro L acc
    cases L with
    | nil => exact .inl rfl
    | cons c r =>
      rw [lexL]
      split
      · split
        · exact .inr rfl
        · exact ih _ _
      · exact .inr rfl
theorem passL_app : ∀ (X : List UInt8) (b : Bool), passL b (X ++ [10]) = if passL b X = [] then [] else passL b X ++ [10]
  | [], b => by cases b <;> rfl
  | c :: r, true => by
    rw [List.cons_append, passL, passL]
    split
    · exact passL_app r false
    · exact passL_app r true
  | c :: r, false => by
    rw [List.cons_append, passL, passL]
    split
    · exact passL_app r false
    · split
      · exact passL_app r true
      · rw [if_neg (by simp)]; rfl
theorem lex_nl (sz sz2 : Nat) : ∀ (n : Nat) (Y : List UInt8) (acc : List S42), Y.length < n → Y.length ≤ sz → (lexL sz n Y acc).2 = -1 → ∀ m, Y.length + 1 < m → lexL sz2 m (if Y = [] then [] else Y ++ [10]) acc = lexL sz n Y acc := by
  intro n
  induction n with
  | zero => intro Y acc h; omega
  | succ n ih =>
    intro Y acc h1 h2 hr m hm
    obtain ⟨m, rfl⟩ : ∃ m', m = m' + 1 := ⟨m - 1, by omega⟩
    cases Y with
    | nil => rw [if_pos rfl]; rfl
    | cons c r =>
      rw [if_neg (by simp), List.cons_append]
      rw [lexL] at hr ⊢
      rw [lexL]
      rw [oneM_nl]
      by_cases hok : (oneM (c :: r)).ok = true
      · rw [if_pos hok] at hr ⊢
        rw [if_pos hok]
        by_cases hfull : acc.length = 2000
        · rw [if_pos hfull] at hr
          simp only at hr
          omega
        · rw [if_neg hfull] at hr ⊢
          rw [if_neg hfull]
          have hpos := oneM_pos c r
          have hle := oneM_le (c :: r)
          have hl := passL_len ((c :: r).drop (oneM (c :: r)).n) false
          have hlc : (c :: r).length = r.length + 1 := rfl
          rw [List.length_drop] at hl
          have hd : (c :: (r ++ [10])).drop (oneM (c :: r)).n = (c :: r).drop (oneM (c :: r)).n ++ [10] := by
            rw [← List.cons_append, List.drop_append_of_le_length hle]
          rw [hd, passL_app]
          exact ih _ _ (by omega) (by omega) hr m (by omega)
      · rw [if_neg hok] at hr
        simp only at hr
        omega
theorem spec_l1Once_eq (b : List Int) (i h n : Int) (hc : Cur b i) : ∃ v i2 h2, spec_l1Once.f b i h n = some (v, i2, h2) ∧ Cur b i2 := by
  unfold spec_l1Once.f
  obtain ⟨v, i2, h2, e, _, _, _, c2⟩ := spec_l1Below_eq b i h n hc
  rw [e]
  exact ⟨_, _, _, rfl, c2⟩
theorem sumD2 (L : List (S42 × List UInt8)) (h : ∀ q ∈ L, q ∈ tokD) : sumB tkB (L.map Prod.fst) ≤ 10 * L.length := by
  induction L with
  | nil => rw [List.map_nil, sumB]; exact Nat.zero_le _
  | cons q L ih =>
    have h1 := (tokD_ok q (h q List.mem_cons_self)).2.1
    have h2 := ih (fun x hx => h x (List.mem_cons_of_mem _ hx))
    rw [List.map_cons, sumB, List.length_cons]
    unfold tkB at h2 ⊢
    omega
theorem sumQ (P : List (S42 × List UInt8)) (h : ∀ q ∈ P, TokQ q) : sumB tkB (P.map Prod.fst) ≤ sumB (fun q => q.2.length) P := by
  induction P with
  | nil => exact Nat.le_refl _
  | cons q P ih =>
    have q1 := (h q List.mem_cons_self).sz
    have q2 := ih (fun x hx => h x (List.mem_cons_of_mem _ hx))
    rw [List.map_cons, sumB, sumB]
    unfold tkB at q2 ⊢
    omega
theorem joinT_size (l : List S42) : (joinT l).size ≤ sumB (fun x => 1 + (tkT x).size) l := by
  have h := join_len [32] (l.map fun x => (tkT x).data.toList)
  have e : (joinT l).size = (Go.Lib.join (l.map fun x => (tkT x).data.toList) [32]).length := by unfold joinT; rw [ba_size]
  rw [e]
  have e2 : sumB List.length (l.map fun x => (tkT x).data.toList) + l.length = sumB (fun x => 1 + (tkT x).size) l := by
    clear h e
    induction l with
    | nil => rfl
    | cons x l ih =>
      rw [List.map_cons, sumB, sumB, List.length_cons, size_len (tkT x)]
      omega
  rw [List.length_map] at h
  simp only [List.length_singleton] at h
  omega
theorem dots_ev (b : List Int) (d : Nat) : ∀ (j : Nat) (x : ByteArray) (i h : Int), j + d = 2003 → x.size = j → Cur b i → ∃ r : ByteArray, Ev (fun k => spec_DrawLex.l0 k x (j : Int) b i h) r ∧ r.size ≤ 2003 := by
  induction d with
  | zero =>
    intro j x i h hj hx hc
    obtain ⟨v, i2, h2, e, v0, v1, _, c2⟩ := spec_l1Below_eq b i h 2 hc
    have v2 := v1 (by omega)
    refine ⟨x, Ev.step (f := fun _ => some x) (fun k => ?_) (Ev.now _), by omega⟩
    simp only [spec_DrawLex.l0]
    rw [e]
    simp only [Option.bind_some]
    rw [w64 _ (by omega) (by omega), if_neg (by omega)]
  | succ d ih =>
    intro j x i h hj hx hc
    obtain ⟨v, i2, h2, e, v0, v1, _, c2⟩ := spec_l1Below_eq b i h 2 hc
    have v2 := v1 (by omega)
    by_cases hlt : (j : Int) < 2000 + v
    · obtain ⟨r, er, hr⟩ := ih (j + 1) (x ++ (⟨#[46]⟩ : ByteArray)) i2 h2 (by omega) (by rw [ByteArray.size_append, hx]; rfl) c2
      refine ⟨r, Ev.step (fun k => ?_) er, hr⟩
      simp only [spec_DrawLex.l0]
      rw [e]
      simp only [Option.bind_some]
      rw [w64 (2000 + v) (by omega) (by omega), if_pos hlt, if_pos (by omega), w64 _ (by omega) (by omega)]
      rfl
    · refine ⟨x, Ev.step (f := fun _ => some x) (fun k => ?_) (Ev.now _), by omega⟩
      simp only [spec_DrawLex.l0]
      rw [e]
      simp only [Option.bind_some]
      rw [w64 _ (by omega) (by omega), if_neg hlt]
theorem draw_j0 (b : List Int) (x : ByteArray) (i h : Int) (hc : Cur b i) (hx : x.size ≤ 10000) : ∃ r : ByteArray, Ev (fun k => spec_DrawLex.j0 k x b i h) r ∧ r.size ≤ 10000 := by
  obtain ⟨v, i2, h2, e, c2⟩ := spec_l1Once_eq b i h 200 hc
  by_cases hv : v = true
  · obtain ⟨r, er, hr⟩ := dots_ev b 2003 0 ⟨#[]⟩ i2 h2 (by omega) rfl c2
    refine ⟨r, Ev.step (f := fun k => spec_DrawLex.l0 k (⟨#[]⟩ : ByteArray) 0 b i2 h2) (fun k => ?_) er, by omega⟩
    simp only [spec_DrawLex.j0]
    rw [e]
    simp only [Option.bind_some]
    rw [if_pos hv]
  · refine ⟨x, Ev.step (f := fun _ => some x) (fun k => ?_) (Ev.now _), hx⟩
    simp only [spec_DrawLex.j0]
    rw [e]
    simp only [Option.bind_some]
    rw [if_neg hv]
theorem drawLex_ev (l0 : List Int) (hl : (l0.length : Int) ≤ 1048576) : ∃ r : ByteArray, Ev (fun k => spec_DrawLex.f k l0) r ∧ r.size ≤ 10000 := by
  obtain ⟨h, e0⟩ := spec_l1New_ev l0 hl
  obtain ⟨L, i2, h2, hD, hlen, e1, c2⟩ := spec_l3Tokens_ev l0 0 h 8 (by omega) ⟨by omega, by omega, by omega⟩
  have ml : (L.map Prod.fst).length = L.length := List.length_map _
  have hs := sumD2 L hD
  have ej := spec_JoinTokens_ev (L.map Prod.fst) (by omega) (by omega)
  have hj : (joinT (L.map Prod.fst)).size ≤ 4000 := by
    have q1 := joinT_size (L.map Prod.fst)
    have q2 := sumB_le (fun x => 1 + (tkT x).size) tkB 21 (L.map Prod.fst) (fun x _ => by have := tkT_size x; unfold tkB; omega)
    omega
  generalize joinT (L.map Prod.fst) = J at ej hj
  obtain ⟨v, i3, h3, e3, v0, v1, _, c3⟩ := spec_l1Below_eq l0 i2 h2 4 c2
  unfold spec_DrawLex.f
  have fin : ∀ (A : Nat → Option ByteArray) (r : ByteArray), Ev A r → Ev (fun k => A k) r := fun A r h => h
  by_cases hv0 : v = 0
  · obtain ⟨x, i4, h4, e4, hm, c4⟩ := spec_l1Str_eq l0 i3 h3 [(⟨#[32, 48, 49]⟩ : ByteArray), (⟨#[195, 169]⟩ : ByteArray), (⟨#[61]⟩ : ByteArray), (⟨#[32, 37, 32, 101, 110, 100, 10, 32, 120]⟩ : ByteArray), (⟨#[37]⟩ : ByteArray), (⟨#[45, 62, 45]⟩ : ByteArray), (⟨#[61, 61, 61]⟩ : ByteArray), (⟨#[49, 48, 48, 48, 48, 48, 48, 48, 48, 48, 48, 48, 49]⟩ : ByteArray), (⟨#[57, 57, 57, 57, 57, 57, 57, 57, 57, 57, 57, 57, 57, 57]⟩ : ByteArray), (⟨#[97, 49, 66]⟩ : ByteArray), (⟨#[65, 32, 98]⟩ : ByteArray), (⟨#[116, 119, 101, 110, 116, 121, 111, 110, 101, 98, 121, 116, 101, 115, 116, 119, 101, 110, 116, 121, 111]⟩ : ByteArray), (⟨#[9, 13, 10]⟩ : ByteArray), (⟨#[95]⟩ : ByteArray), (⟨#[62]⟩ : ByteArray)] (by simp) c3
    have hx : x.size ≤ 30 := by
      simp only [List.mem_cons, List.not_mem_nil, or_false] at hm
      rcases hm with rfl | rfl | rfl | rfl | rfl | rfl | rfl | rfl | rfl | rfl | rfl | rfl | rfl | rfl | rfl <;> decide
    obtain ⟨r, er, hr⟩ := draw_j0 l0 (J ++ x) i4 h4 c4 (by rw [ByteArray.size_append]; omega)
    exact ⟨r, Ev.bind e0 (Ev.bind e1 (Ev.bind ej (Ev.bind (ev_of e3) (ev_pos hv0 (Ev.bind (ev_of e4) (ev_pos (show J.size + x.size ≤ 9223372036854775807 by omega) er)))))), hr⟩
  · by_cases hv1 : v = 1
    · obtain ⟨x, i4, h4, e4, hm, c4⟩ := spec_l1Str_eq l0 i3 h3 [(⟨#[102, 40, 88, 41, 45, 62, 123, 111, 107, 44, 88, 125, 46]⟩ : ByteArray), (⟨#[97, 37, 32, 98, 10, 99]⟩ : ByteArray), (⟨#[91, 72, 124, 84, 93]⟩ : ByteArray), (⟨#[40, 49, 43, 50, 41]⟩ : ByteArray), (⟨#[99, 97, 115, 101, 32, 88, 32, 111, 102, 32, 95, 45, 62, 97, 59, 98, 45, 62, 99, 32, 101, 110, 100]⟩ : ByteArray)] (by simp) c3
      have hx : x.size ≤ 30 := by
        simp only [List.mem_cons, List.not_mem_nil, or_false] at hm
        rcases hm with rfl | rfl | rfl | rfl | rfl <;> decide
      obtain ⟨r, er, hr⟩ := draw_j0 l0 x i4 h4 c4 (by omega)
      exact ⟨r, Ev.bind e0 (Ev.bind e1 (Ev.bind ej (Ev.bind (ev_of e3) (ev_neg hv0 (ev_pos hv1 (Ev.bind (ev_of e4) er)))))), hr⟩
    · obtain ⟨r, er, hr⟩ := draw_j0 l0 J i3 h3 c3 (by omega)
      exact ⟨r, Ev.bind e0 (Ev.bind e1 (Ev.bind ej (Ev.bind (ev_of e3) (ev_neg hv0 (ev_neg hv1 er))))), hr⟩
theorem FnLexed : laws_FnLexed.Pure := by
  intro l0 hl hl2 hw
  refine Ev.rounds (g := fun k => laws_FnLexed.f k l0) ?_
  unfold laws_FnLexed.f
  rw [laws_big_eq]
  by_cases hb : (l0.length : Int) > 1048576
  · refine Ev.bind (Ev.now _) (ev_pos (decide_eq_true hb) (Ev.now _))
  · refine Ev.bind (Ev.now _) (ev_neg (by simpa using hb) ?_)
    obtain ⟨D, ed, hD⟩ := drawLex_ev l0 (by omega)
    have es := spec_Lex_ev D (by omega)
    have ei := impl_Lex_ev D (by omega)
    have hdl := size_len D
    have hpl := passL_len D.data.toList false
    have hfail := lexL_fail D.size ((passL false D.data.toList).length + 1) (passL false D.data.toList) []
    have hpairs := lex_pairs D.size ((passL false D.data.toList).length + 1) (passL false D.data.toList) [] (by omega) (by omega) (passL_idem _ _) (by simp)
    have hnl := lex_nl D.size (((⟨#[32, 37, 32, 114, 101, 109, 97, 114, 107, 10]⟩ : ByteArray) ++ D) ++ (⟨#[10]⟩ : ByteArray)).size ((passL false D.data.toList).length + 1) (passL false D.data.toList) [] (by omega) (by omega)
    show Ev _ true
    refine Ev.bind ed (Ev.bind ei (Ev.bind es (ev_pos rfl ?_)))
    change Ev (fun k => laws_FnLexed.j0 k D (lexN D.size (passL false D.data.toList) []).1 (lexN D.size (passL false D.data.toList) []).2 (lexN D.size (passL false D.data.toList) []).2 ((lexN D.size (passL false D.data.toList) []).2 != (-1))) true
    change (lexN D.size (passL false D.data.toList) []).2 = -1 ∨ (lexN D.size (passL false D.data.toList) []).1 = [] at hfail
    change (lexN D.size (passL false D.data.toList) []).2 = -1 → _ at hpairs
    change (lexN D.size (passL false D.data.toList) []).2 = -1 → _ at hnl
    by_cases hm : (lexN D.size (passL false D.data.toList) []).2 = -1
    · obtain ⟨P, p1, p2, p3, p4⟩ := hpairs hm
      have hnl2 := hnl hm ((if passL false D.data.toList = [] then [] else passL false D.data.toList ++ [10]).length + 1 + 1 + (passL false D.data.toList).length) (by omega)
      change (lexN D.size (passL false D.data.toList) []).1 = [] ++ P.map Prod.fst at p2
      rw [List.nil_append] at p2
      have hR : lexN D.size (passL false D.data.toList) [] = (P.map Prod.fst, -1) := Prod.ext p2 hm
      rw [hR]
      have hne : ((P.map Prod.fst, (-1 : Int)).2 != (-1)) = false := rfl
      rw [hne]
      have ml : (P.map Prod.fst).length = P.length := List.length_map _
      have hlen : P.length ≤ 2000 := by simpa using p3
      have hst := sumQ P p1
      have ej := impl_JoinTokens_ev (P.map Prod.fst) (by omega) (by omega)
      have hjd : (joinT (P.map Prod.fst)).data.toList = Go.Lib.join (P.map Prod.snd) [32] := by
        unfold joinT
        show Go.Lib.join _ [32] = _
        congr 1
        rw [List.map_map]
        apply List.map_congr_left
        intro q hq
        exact (p1 q hq).tx
      have hjs : (joinT (P.map Prod.fst)).size ≤ 100000 := by
        have q1 := joinT_size (P.map Prod.fst)
        have q2 := sumB_le (fun x => 1 + (tkT x).size) tkB 21 (P.map Prod.fst) (fun x _ => by have := tkT_size x; unfold tkB; omega)
        omega
      have el := impl_Lex_ev (joinT (P.map Prod.fst)) (by omega)
      rw [hjd, lex_roundQ _ P [] p1 (by simpa using p3), List.nil_append] at el
      have hcs : (((⟨#[32, 37, 32, 114, 101, 109, 97, 114, 107, 10]⟩ : ByteArray) ++ D) ++ (⟨#[10]⟩ : ByteArray)).size = 10 + D.size + 1 := by
        rw [ByteArray.size_append, ByteArray.size_append]; rfl
      have hcs1 : ((⟨#[32, 37, 32, 114, 101, 109, 97, 114, 107, 10]⟩ : ByteArray) ++ D).size = 10 + D.size := by
        rw [ByteArray.size_append]; rfl
      have ec := impl_Lex_ev (((⟨#[32, 37, 32, 114, 101, 109, 97, 114, 107, 10]⟩ : ByteArray) ++ D) ++ (⟨#[10]⟩ : ByteArray)) (by omega)
      have hct : (((⟨#[32, 37, 32, 114, 101, 109, 97, 114, 107, 10]⟩ : ByteArray) ++ D) ++ (⟨#[10]⟩ : ByteArray)).data.toList = [32, 37, 32, 114, 101, 109, 97, 114, 107, 10] ++ (D.data.toList ++ [10]) := by
        rw [ba_cat, ba_cat, List.append_assoc]
      have hpc : ∀ Z : List UInt8, passL false ([32, 37, 32, 114, 101, 109, 97, 114, 107, 10] ++ Z) = passL false Z := fun Z => by kernel_rfl
      rw [hct, hpc, passL_app] at ec
      have hfu : lexN (((⟨#[32, 37, 32, 114, 101, 109, 97, 114, 107, 10]⟩ : ByteArray) ++ D) ++ (⟨#[10]⟩ : ByteArray)).size (if passL false D.data.toList = [] then [] else passL false D.data.toList ++ [10]) [] = (P.map Prod.fst, -1) := by
        unfold lexN
        rw [lexL_fuel _ _ ((if passL false D.data.toList = [] then [] else passL false D.data.toList ++ [10]).length + 1 + 1 + (passL false D.data.toList).length) _ _ (by omega) (by omega), hnl2]
        exact hR
      rw [hfu] at ec
      have sm := sameTokens_ev (P.map Prod.fst) (by omega)
      refine Ev.step (f := fun k => (impl_JoinTokens.f k (P.map Prod.fst)).bind fun t345 => ((impl_Lex.f k t345).bind fun bt346 => (if 10 + D.size ≤ 9223372036854775807 then (if ((⟨#[32, 37, 32, 114, 101, 109, 97, 114, 107, 10]⟩ : ByteArray) ++ D).size + 1 ≤ 9223372036854775807 then ((impl_Lex.f k (((⟨#[32, 37, 32, 114, 101, 109, 97, 114, 107, 10]⟩ : ByteArray) ++ D) ++ (⟨#[10]⟩ : ByteArray))).bind fun bt350 => (if bt346.2 = (-1) then (if bt350.2 = (-1) then ((laws_sameTokens.f k bt346.1 (P.map Prod.fst)).bind fun t354 => (if t354 = true then ((laws_sameTokens.f k bt350.1 (P.map Prod.fst)).bind fun t355 => (some t355)) else (some false))) else (some false)) else (some false))) else (none)) else (none)))) (fun k => by simp only [laws_FnLexed.j0]; rw [if_neg (by decide)]) ?_
      exact Ev.bind ej (Ev.bind el (ev_pos (by omega) (ev_pos (by omega) (Ev.bind ec (ev_pos rfl (ev_pos rfl (Ev.bind sm (ev_pos rfl (Ev.bind sm (Ev.now _))))))))))
    · have hz := hfail.resolve_left hm
      generalize lexN D.size (passL false D.data.toList) [] = R at *
      have hne : (R.2 != (-1)) = true := by simpa using hm
      rw [hne, hz]
      refine Ev.step (f := fun _ => some true) (fun k => ?_) (Ev.now _)
      simp only [laws_FnLexed.j0]
      rw [if_pos trivial, if_pos trivial]
      rfl

end Go.Proofs.YtpbhbpffpkedcaaDoor.Pure
