/- What the law FnExactJoinTokens of this seat says holds for every input that its row speaks of; no further condition. -/
import Derived.Test.YtpbhbpffpkedcaaDoorQFnExactJoinTokensx5
set_option linter.unusedVariables false
set_option linter.unusedSimpArgs false
namespace Go.Proofs.YtpbhbpffpkedcaaDoor.Pure
open Go.RowKit Go.Proofs.YtpbhbpffpkedcaaDoor.QFnExactJoinTokens Go.Proofs.YtpbhbpffpkedcaaDoorW.PrintWords Go.Proofs.YtpbhbpffpkedcaaDoorW.PrintLast Go.Proofs.YtpbhbpffpkedcaaDoorW.PrintMore

theorem ev_pos {α : Type} {c : Prop} [Decidable c] {A B : Nat → Option α} {r : α} (h : c) (e : Ev A r) : Ev (fun k => if c then A k else B k) r := by
  obtain ⟨K, hK⟩ := e
  exact ⟨K, fun k hk => by simp only [if_pos h]; exact hK k hk⟩
theorem ev_neg {α : Type} {c : Prop} [Decidable c] {A B : Nat → Option α} {r : α} (h : ¬ c) (e : Ev B r) : Ev (fun k => if c then A k else B k) r := by
  obtain ⟨K, hK⟩ := e
  exact ⟨K, fun k hk => by simp only [if_neg h]; exact hK k hk⟩
theorem ev_of {α : Type} {o : Option α} {r : α} (h : o = some r) : Ev (fun _ => o) r := ⟨0, fun _ _ => h⟩
theorem ev_cast {α : Type} {g : Nat → Option α} {r r' : α} (h : r = r') (e : Ev g r) : Ev g r' := h ▸ e
theorem ev_uniq {α : Type} {g : Nat → Option α} {r r' : α} (h : Ev g r) (h' : Ev g r') : r = r' := by
  obtain ⟨K, hK⟩ := h
  obtain ⟨K', hK'⟩ := h'
  have a := hK (max K K') (Nat.le_max_left _ _)
  have b := hK' (max K K') (Nat.le_max_right _ _)
  rw [a] at b
  exact Option.some.inj b
theorem w64 (n : Int) (h0 : -9223372036854775808 ≤ n) (h1 : n ≤ 9223372036854775807) : wrap64 n = n := by unfold wrap64; omega
theorem dec_and (p q : Prop) [Decidable p] [Decidable q] : decide (p ∧ q) = (decide p && decide q) := by
  by_cases hp : p <;> by_cases hq : q <;> simp [hp, hq]
def szRes (left : Int) (b : Nat) : Int := if (b : Int) ≤ left then left - b else -1
theorem getDG {α : Type} (z : α) (l : List α) (i : Nat) (h : i < l.length) : l.getD ((i : Int)).toNat z = l[i] := by
  simp [List.getD_eq_getElem?_getD, List.getElem?_eq_getElem h]
theorem map_loop {α β : Type} (L : Nat → List β → Int → Option (List β)) (f : α → β) (l : List α)
    (hstep : ∀ (i : Nat) (h : i < l.length) (x : List β) (r : List β), x.length = l.length → Ev (fun k => L k (x.set i (f l[i])) ((i + 1 : Nat) : Int)) r → Ev (fun k => L k x (i : Int)) r)
    (hend : ∀ x : List β, x.length = l.length → Ev (fun k => L k x (l.length : Int)) x) (d : Nat) :
    ∀ (i : Nat) (x : List β), i + d = l.length → x.length = l.length → x.take i = (l.map f).take i → Ev (fun k => L k x (i : Int)) (l.map f) := by
  induction d with
  | zero =>
    intro i x hi hx ht
    have e : i = l.length := by omega
    subst e
    refine ev_cast ?_ (hend x hx)
    rwa [List.take_of_length_le (by omega), List.take_of_length_le (by rw [List.length_map]; omega)] at ht
  | succ d ih =>
    intro i x hi hx ht
    have hlt : i < l.length := by omega
    refine hstep i hlt x _ hx (ih (i + 1) _ (by omega) (by simpa using hx) ?_)
    rw [List.take_succ_eq_append_getElem (by simpa using (by omega : i < x.length)), List.take_set_of_le (Nat.le_refl i), ht, List.take_succ_eq_append_getElem (by simpa using hlt)]
    simp
theorem map_loop0 {α β : Type} (L : Nat → List β → Int → Option (List β)) (f : α → β) (l : List α) (z : β)
    (hstep : ∀ (i : Nat) (h : i < l.length) (x : List β) (r : List β), x.length = l.length → Ev (fun k => L k (x.set i (f l[i])) ((i + 1 : Nat) : Int)) r → Ev (fun k => L k x (i : Int)) r)
    (hend : ∀ x : List β, x.length = l.length → Ev (fun k => L k x (l.length : Int)) x) : Ev (fun k => L k (List.replicate l.length z) 0) (l.map f) :=
  map_loop L f l hstep hend l.length 0 (List.replicate l.length z) (by omega) (by simp) (by simp)
def sumB {α : Type} (bud : α → Nat) : List α → Nat
  | [] => 0
  | x :: r => bud x + sumB bud r
theorem sumB_drop {α : Type} (bud : α → Nat) (l : List α) (i : Nat) (h : i < l.length) : sumB bud (l.drop i) = bud l[i] + sumB bud (l.drop (i + 1)) := by
  rw [List.drop_eq_getElem_cons h, sumB]
theorem sumB_mem {α : Type} (bud : α → Nat) : ∀ (l : List α) (x : α), x ∈ l → bud x ≤ sumB bud l
  | [], x, h => by cases h
  | y :: r, x, h => by
    rw [sumB]
    rcases List.mem_cons.1 h with rfl | h
    · omega
    · have := sumB_mem bud r x h; omega
theorem sz_loopG {α : Type} (L : Nat → Int → Int → Option Int) (bud : α → Nat) (l : List α)
    (hstep : ∀ (i : Nat) (h : i < l.length) (left r : Int), 0 ≤ left → left ≤ 1048576 → ((bud l[i] : Int) ≤ left → Ev (fun k => L k (left - bud l[i]) ((i + 1 : Nat) : Int)) r) → (¬ (bud l[i] : Int) ≤ left → r = -1) → Ev (fun k => L k left (i : Int)) r)
    (hend : ∀ left : Int, Ev (fun k => L k left (l.length : Int)) left) (d : Nat) :
    ∀ (i : Nat) (left : Int), i + d = l.length → 0 ≤ left → left ≤ 1048576 → Ev (fun k => L k left (i : Int)) (szRes left (sumB bud (l.drop i))) := by
  induction d with
  | zero =>
    intro i left hi h0 h1
    have e : i = l.length := by omega
    subst e
    refine ev_cast ?_ (hend left)
    rw [List.drop_eq_nil_of_le (by omega), sumB]; unfold szRes; rw [if_pos (by omega)]; omega
  | succ d ih =>
    intro i left hi h0 h1
    have hlt : i < l.length := by omega
    rw [sumB_drop bud l i hlt]
    refine hstep i hlt left _ h0 h1 (fun hb => ?_) (fun hb => ?_)
    · refine ev_cast ?_ (ih (i + 1) (left - bud l[i]) (by omega) (by omega) (by omega))
      unfold szRes
      by_cases hc : (sumB bud (l.drop (i + 1)) : Int) ≤ left - bud l[i]
      · rw [if_pos hc, if_pos (by omega)]; omega
      · rw [if_neg hc, if_neg (by omega)]
    · unfold szRes; rw [if_neg (by omega)]
def allFrom (p : Nat → Bool) (i d : Nat) : Bool := (List.range' i d).all p
theorem all_loop (L : Nat → Int → Option Bool) (p : Nat → Bool) (n : Nat)
    (hstep : ∀ (i : Nat), i < n → ∀ r, (p i = true → Ev (fun k => L k ((i + 1 : Nat) : Int)) r) → (p i = false → r = false) → Ev (fun k => L k (i : Int)) r)
    (hend : Ev (fun k => L k (n : Int)) true) (d : Nat) : ∀ i : Nat, i + d = n → Ev (fun k => L k (i : Int)) (allFrom p i d) := by
  induction d with
  | zero =>
    intro i hi
    have e : i = n := by omega
    subst e
    exact hend
  | succ d ih =>
    intro i hi
    refine hstep i (by omega) _ (fun hp => ?_) (fun hp => ?_)
    · refine ev_cast ?_ (ih (i + 1) (by omega))
      unfold allFrom
      rw [List.range'_succ, List.all_cons, hp, Bool.true_and]
    · unfold allFrom
      rw [List.range'_succ, List.all_cons, hp, Bool.false_and]
theorem wfTok_mk {a b : Int} {s : ByteArray} (h : wf39 ⟨a, b, s⟩) : (s.size : Int) ≤ 9223372036854775807 := by
  unfold wf39 at h
  obtain ⟨_, _, h⟩ := h
  unfold maxLen at h
  omega
theorem szToken_eq (a b : Int) (s : ByteArray) (hw : wf39 ⟨a, b, s⟩) (left : Int) (h0 : 0 ≤ left) (h1 : left ≤ 1048576) : laws_szToken.f a b s left = some (szRes left s.size) := by
  have := wfTok_mk hw
  unfold laws_szToken.f szRes
  rw [w64 _ (by omega) (by omega)]
  by_cases hc : left - (s.size : Int) < 0
  · rw [if_pos hc, if_neg (by omega)]
  · rw [if_neg hc, if_pos (by omega)]
def budTok (x : S39) : Nat := x.f2.size
def cvTok (x : S39) : S42 := ⟨x.f0, x.f1, x.f2⟩
theorem rd_lt (l : List S39) (i : Nat) (h : i < l.length) : rd_T39 l (i : Int) = l[i] := getDG _ l i h
theorem szTokenS_ev (l : List S39) (hl : (l.length : Int) ≤ 9223372036854775807) (hw : ∀ y ∈ l, wf39 y) (left : Int) (h0 : 0 ≤ left) (h1 : left ≤ 1048576) :
    Ev (fun k => laws_szTokenS.f k l left) (szRes left (l.length + sumB budTok l)) := by
  unfold laws_szTokenS.f
  rw [w64 _ (by omega) (by omega)]
  by_cases hc : left - (l.length : Int) < 0
  · refine ev_pos hc (ev_cast ?_ (Ev.now _))
    unfold szRes; rw [if_neg (by omega)]
  · refine ev_neg hc (ev_cast ?_ (sz_loopG (fun k left i => laws_szTokenS.l0 k l left i) budTok l ?_ ?_ l.length 0 (left - l.length) (by omega) (by omega) (by omega)))
    · rw [List.drop_zero]
      unfold szRes
      by_cases hb : (sumB budTok l : Int) ≤ left - l.length
      · rw [if_pos hb, if_pos (by omega)]; omega
      · rw [if_neg hb, if_neg (by omega)]
    · intro i h left r q0 q1 hr hn
      have e := szToken_eq l[i].f0 l[i].f1 l[i].f2 (hw _ (List.getElem_mem h)) left q0 q1
      by_cases hb : (budTok l[i] : Int) ≤ left
      · refine Ev.step (fun k => ?_) (hr hb)
        simp only [laws_szTokenS.l0]
        rw [if_pos (by omega), if_pos (by omega), rd_lt l i h, e]
        simp only [Option.bind_some]
        unfold szRes
        unfold budTok at hb ⊢
        rw [if_pos hb, if_neg (by omega), w64 _ (by omega) (by omega)]
        rfl
      · refine Ev.step (f := fun _ => some (-1)) (fun k => ?_) (ev_cast (hn hb).symm (Ev.now _))
        simp only [laws_szTokenS.l0]
        rw [if_pos (by omega), if_pos (by omega), rd_lt l i h, e]
        simp only [Option.bind_some]
        unfold szRes
        unfold budTok at hb
        rw [if_neg hb, if_pos (by omega)]
    · intro left
      refine Ev.step (f := fun _ => some left) (fun k => ?_) (Ev.now _)
      simp only [laws_szTokenS.l0]; rw [if_neg (by omega)]
theorem toToken_eq (x : S39) : laws_toToken.f x.f0 x.f1 x.f2 = some (x.f0, x.f1, x.f2) := rfl
theorem toTokenS_ev (l : List S39) (hl : (l.length : Int) ≤ 1048576) : Ev (fun k => laws_toTokenS.f k l) (l.map cvTok) := by
  unfold laws_toTokenS.f
  refine ev_pos (by omega) (ev_pos (by omega) ?_)
  rw [Int.toNat_natCast]
  refine map_loop0 (fun k x i => laws_toTokenS.l0 k l x i) cvTok l _ ?_ ?_
  · intro i h x r hx e
    refine Ev.step (fun k => ?_) e
    simp only [laws_toTokenS.l0]
    rw [if_pos (by omega), if_pos (by omega), rd_lt l i h, toToken_eq]
    simp only [Option.bind_some]
    rw [if_pos (by omega), w64 _ (by omega) (by omega), Int.toNat_natCast]
    rfl
  · intro x hx
    refine Ev.step (f := fun _ => some x) (fun k => ?_) (Ev.now _)
    simp only [laws_toTokenS.l0]; rw [if_neg (by omega)]
theorem rd_it (l : List S42) (i : Nat) (h : i < l.length) : rd_T42 l (i : Int) = l[i] := getDG _ l i h
theorem eqToken_eq (x : S42) : laws_eqToken.f x.f0 x.f1 x.f2 x.f0 x.f1 x.f2 = some true := by
  unfold laws_eqToken.f; simp
theorem eqTokenS_ev (l : List S42) (hl : (l.length : Int) ≤ 4194304) : Ev (fun k => laws_eqTokenS.f k l l) true := by
  unfold laws_eqTokenS.f
  refine ev_pos rfl (ev_cast ?_ (all_loop (fun k i => laws_eqTokenS.l0 k l l i) (fun _ => true) l.length ?_ ?_ l.length 0 (by omega)))
  · unfold allFrom; simp
  · intro i h r hr _
    refine Ev.step (fun k => ?_) (hr rfl)
    simp only [laws_eqTokenS.l0]
    rw [if_pos (by omega), if_pos (by omega), if_pos (by omega), rd_it l i h, eqToken_eq, w64 _ (by omega) (by omega)]
    rfl
  · refine Ev.step (f := fun _ => some true) (fun k => ?_) (Ev.now _)
    simp only [laws_eqTokenS.l0]; rw [if_neg (by omega)]
def lowB (c : Int) : Bool := decide (97 ≤ c) && decide (c ≤ 122)
def digB (c : Int) : Bool := decide (48 ≤ c) && decide (c ≤ 57)
def atomB (c : Int) : Bool := lowB c || (digB c || decide (c = 95))
def atomFrom (s : ByteArray) (i : Nat) : Bool := (List.range' i (s.size - i)).all fun j => lowB (bt s j) || (!decide (j = 0) && (digB (bt s j) || decide (bt s j = 95)))
def atomOkM (s : ByteArray) : Bool := atomFrom s 0 && (decide (1 ≤ (s.size : Int)) && decide ((s.size : Int) ≤ 20))
theorem atomFrom_end (s : ByteArray) (i : Nat) (h : s.size ≤ i) : atomFrom s i = true := by
  unfold atomFrom
  rw [Nat.sub_eq_zero_of_le h]; rfl
theorem atomFrom_step (s : ByteArray) (i : Nat) (h : i < s.size) : atomFrom s i = ((lowB (bt s i) || (!decide (i = 0) && (digB (bt s i) || decide (bt s i = 95)))) && atomFrom s (i + 1)) := by
  unfold atomFrom
  obtain ⟨n, hn⟩ : ∃ n, s.size - i = n + 1 := ⟨s.size - i - 1, by omega⟩
  rw [hn, show s.size - (i + 1) = n from by omega, List.range'_succ]
  simp [List.all_cons]
theorem wbt (s : ByteArray) (i : Int) : wrap64 (bt s i) = bt s i := by
  have := bt_range s i
  exact w64 _ (by omega) (by omega)
theorem tl_inj (a b : ByteArray) : a.toList = b.toList ↔ a.data.toList = b.data.toList := by rw [Go.Lib.toList_data, Go.Lib.toList_data]
theorem tlx (s : ByteArray) (n : Nat) : (s.extract 0 n).data.toList = s.data.toList.take n := by
  simp [ByteArray.data_extract, Array.toList_extract, List.extract]
theorem ixb (l : List UInt8) (c : UInt8) : (Go.Lib.indexByte l c ≥ 0) ↔ c ∈ l := by
  induction l with
  | nil => simp [Go.Lib.indexByte]
  | cons b l ih =>
    have := Go.Lib.indexByte_ge l c
    unfold Go.Lib.indexByte
    by_cases h : b = c
    · simp [h]
    · have h2 : ¬ c = b := fun e => h e.symm
      simp only [beq_iff_eq, h, if_false, List.mem_cons, h2, false_or]
      rw [← ih]
      split <;> omega
theorem size_len (s : ByteArray) : s.size = s.data.toList.length := by
  rw [Array.length_toList]; rfl
theorem bt0 (s : ByteArray) (c : UInt8) (l : List UInt8) (h : s.data.toList = c :: l) : (bt s 0).toNat.toUInt8 = c := by
  have h0 : 0 < s.size := by rw [size_len, h]; simp
  have := bt_at s 0 (by simpa using h0)
  rw [← this]
  have e : s[(0 : Int).toNat]'(by simpa using h0) = c := by
    have q : s.data.toList[0]'(by rw [h]; simp) = c := by simp [h]
    rw [← q]
    rfl
  rw [e]
  simp
def largeB (c : Int) : Bool := (decide (65 ≤ c) && decide (c ≤ 90)) || decide (c = 95)
def varP (s : ByteArray) (i : Nat) : Bool := largeB (bt s i) || (!decide (i = 0) && (lowB (bt s i) || digB (bt s i)))
def varQ (s : ByteArray) (i : Nat) : Bool := lowB (bt s i) || (largeB (bt s i) || digB (bt s i))
def in20 (s : ByteArray) : Bool := decide (1 ≤ (s.size : Int)) && decide ((s.size : Int) ≤ 20)
def varOkM (s : ByteArray) : Bool := allFrom (varP s) 0 s.size && in20 s
theorem allFrom_iff (p : Nat → Bool) (n : Nat) : allFrom p 0 n = true ↔ ∀ i, i < n → p i = true := by
  unfold allFrom
  rw [List.all_eq_true]
  constructor
  · intro h i hi
    exact h i (by rw [List.mem_range'_1]; omega)
  · intro h i hi
    rw [List.mem_range'_1] at hi
    exact h i (by omega)
theorem varOk_same (s : ByteArray) : (allFrom (varQ s) 0 s.size && (in20 s && largeB (bt s 0))) = varOkM s := by
  unfold varOkM
  cases hn : in20 s with
  | false => simp
  | true =>
    rw [Bool.true_and, Bool.and_true, Bool.eq_iff_iff, Bool.and_eq_true, allFrom_iff, allFrom_iff]
    unfold in20 at hn
    rw [Bool.and_eq_true, decide_eq_true_eq, decide_eq_true_eq] at hn
    constructor
    · rintro ⟨h, h0⟩ i hi
      have := h i hi
      unfold varQ at this
      unfold varP
      by_cases hz : i = 0
      · subst hz
        rw [show ((0 : Nat) : Int) = 0 from rfl, h0]; rfl
      · rw [decide_eq_false hz]
        revert this
        cases lowB (bt s i) <;> cases largeB (bt s i) <;> cases digB (bt s i) <;> simp
    · intro h
      refine ⟨fun i hi => ?_, ?_⟩
      · have := h i hi
        unfold varP at this
        unfold varQ
        revert this
        cases lowB (bt s i) <;> cases largeB (bt s i) <;> cases digB (bt s i) <;> simp
      · have := h 0 (by omega)
        unfold varP at this
        simpa using this
theorem all_loopB (L : Nat → Int → Option Bool) (p : Nat → Bool) (n : Nat) (b : Bool)
    (hstep : ∀ (i : Nat), i < n → ∀ r, (p i = true → Ev (fun k => L k ((i + 1 : Nat) : Int)) r) → (p i = false → r = false) → Ev (fun k => L k (i : Int)) r)
    (hend : Ev (fun k => L k (n : Int)) b) (d : Nat) : ∀ i : Nat, i + d = n → Ev (fun k => L k (i : Int)) (allFrom p i d && b) := by
  induction d with
  | zero =>
    intro i hi
    have e : i = n := by omega
    subst e
    exact ev_cast (by unfold allFrom; simp) hend
  | succ d ih =>
    intro i hi
    refine hstep i (by omega) _ (fun hp => ?_) (fun hp => ?_)
    · refine ev_cast ?_ (ih (i + 1) (by omega))
      unfold allFrom
      rw [List.range'_succ, List.all_cons, hp, Bool.true_and]
    · unfold allFrom
      rw [List.range'_succ, List.all_cons, hp, Bool.false_and, Bool.false_and]
def onesL : List UInt8 := [40, 41, 123, 125, 91, 93, 44, 46, 59, 124, 60, 43, 45, 42]
def markOkL (l : List UInt8) : Bool := decide (l = [45, 62]) || (decide (l = [61, 61]) || onesL.any (fun c => decide (l = [c])))
theorem ones_at (i : Nat) (h : i < 14) : ((⟨#[40, 41, 123, 125, 91, 93, 44, 46, 59, 124, 60, 43, 45, 42]⟩ : ByteArray).extract i (i + 1)).data.toList = [onesL.getD i 0] := by
  have : i = 0 ∨ i = 1 ∨ i = 2 ∨ i = 3 ∨ i = 4 ∨ i = 5 ∨ i = 6 ∨ i = 7 ∨ i = 8 ∨ i = 9 ∨ i = 10 ∨ i = 11 ∨ i = 12 ∨ i = 13 := by omega
  rcases this with rfl | rfl | rfl | rfl | rfl | rfl | rfl | rfl | rfl | rfl | rfl | rfl | rfl | rfl <;> rfl
def tokOkM (a b : Int) (s : ByteArray) : Bool :=
  if a = 1 then (decide (0 ≤ b) && decide (b ≤ 1000000000000)) && decide (s.data.toList = [])
  else if a = 2 then atomOkM s && decide (b = 0)
  else if a = 3 then varOkM s && decide (b = 0)
  else if a = 4 then markOkL s.data.toList && decide (b = 0)
  else false
theorem empty_beq (s : ByteArray) : (s.toList == ([] : List UInt8)) = decide (s.data.toList = []) := by
  rw [Go.Lib.toList_data, Bool.eq_iff_iff, beq_iff_eq, decide_eq_true_eq]
theorem spec_l1In_eq (a b c : Int) : spec_l1In.f a b c = some (decide (b ≤ a) && decide (a ≤ c)) := by
  unfold spec_l1In.f
  by_cases h : b ≤ a <;> simp [h]
theorem spec_AtomOk_l (s : ByteArray) (hs : s.size ≤ 140737488351232) (d : Nat) : ∀ i : Nat, i + d = s.size → Ev (fun k => spec_AtomOk.l0 k s i) (atomFrom s i && (decide (1 ≤ (s.size : Int)) && decide ((s.size : Int) ≤ 20))) := by
  induction d with
  | zero =>
    intro i hi
    refine Ev.step (f := fun _ => some (decide (1 ≤ (s.size : Int)) && decide ((s.size : Int) ≤ 20))) (fun k => ?_) (ev_cast ?_ (Ev.now _))
    · simp only [spec_AtomOk.l0]
      rw [if_neg (by omega), spec_l1In_eq]; rfl
    · rw [atomFrom_end s i (by omega)]; rfl
  | succ d ih =>
    intro i hi
    have hlt : i < s.size := by omega
    have hn := ih (i + 1) (by omega)
    rw [atomFrom_step s i hlt]
    by_cases h1 : lowB (bt s i) = true
    · refine Ev.step (fun k => ?_) (ev_cast ?_ hn)
      · simp only [spec_AtomOk.l0]
        rw [if_pos (by omega), if_pos (by omega), wbt, spec_l1In_eq]
        simp only [Option.bind_some]
        unfold lowB at h1
        rw [if_pos h1, w64 _ (by omega) (by omega)]
        rfl
      · rw [h1]; rfl
    · have h1' : lowB (bt s i) = false := by simpa using h1
      by_cases h0 : i = 0
      · refine Ev.step (f := fun _ => some false) (fun k => ?_) (ev_cast ?_ (Ev.now _))
        · simp only [spec_AtomOk.l0]
          rw [if_pos (by omega), if_pos (by omega), wbt, spec_l1In_eq]
          simp only [Option.bind_some]
          unfold lowB at h1
          rw [if_neg h1, if_pos (by omega)]
        · rw [h1']; simp [h0]
      · by_cases h2 : digB (bt s i) = true
        · refine Ev.step (fun k => ?_) (ev_cast ?_ hn)
          · simp only [spec_AtomOk.l0]
            rw [if_pos (by omega), if_pos (by omega), wbt, spec_l1In_eq]
            simp only [Option.bind_some]
            unfold lowB at h1; unfold digB at h2
            rw [if_neg h1, if_neg (by omega), spec_l1In_eq]
            simp only [Option.bind_some]
            rw [if_pos h2, w64 _ (by omega) (by omega)]
            rfl
          · rw [h2]; simp [h0]
        · have h2' : digB (bt s i) = false := by simpa using h2
          by_cases h3 : bt s i = 95
          · refine Ev.step (fun k => ?_) (ev_cast ?_ hn)
            · simp only [spec_AtomOk.l0]
              rw [if_pos (by omega), if_pos (by omega), wbt, spec_l1In_eq]
              simp only [Option.bind_some]
              unfold lowB at h1; unfold digB at h2
              rw [if_neg h1, if_neg (by omega), spec_l1In_eq]
              simp only [Option.bind_some]
              rw [if_neg h2, if_pos h3, w64 _ (by omega) (by omega)]
              rfl
            · simp [h0, h3]
          · refine Ev.step (f := fun _ => some false) (fun k => ?_) (ev_cast ?_ (Ev.now _))
            · simp only [spec_AtomOk.l0]
              rw [if_pos (by omega), if_pos (by omega), wbt, spec_l1In_eq]
              simp only [Option.bind_some]
              unfold lowB at h1; unfold digB at h2
              rw [if_neg h1, if_neg (by omega), spec_l1In_eq]
              simp only [Option.bind_some]
              rw [if_neg h2, if_neg h3]
            · rw [h1', h2']; simp [h3]
theorem spec_AtomOk_ev (s : ByteArray) (hs : s.size ≤ 140737488351232) : Ev (fun k => spec_AtomOk.f k s) (atomOkM s) := spec_AtomOk_l s hs s.size 0 (by omega)
theorem spec_l3Large_eq (c : Int) (h0 : 0 ≤ c) (h1 : c ≤ 255) : spec_l3Large.f c = some (largeB c) := by
  unfold spec_l3Large.f largeB
  rw [w64 _ (by omega) (by omega), spec_l1In_eq]
  simp only [Option.bind_some]
  cases h : (decide (65 ≤ c) && decide (c ≤ 90)) with
  | true => rw [if_pos rfl]; rfl
  | false => rw [if_neg (by decide), Bool.false_or]; rfl
theorem spec_l3Small_eq (c : Int) (h0 : 0 ≤ c) (h1 : c ≤ 255) : spec_l3Small.f c = some (lowB c) := by
  unfold spec_l3Small.f lowB
  rw [w64 _ (by omega) (by omega), spec_l1In_eq]; rfl
theorem spec_l3Digit_eq (c : Int) (h0 : 0 ≤ c) (h1 : c ≤ 255) : spec_l3Digit.f c = some (digB c) := by
  unfold spec_l3Digit.f digB
  rw [w64 _ (by omega) (by omega), spec_l1In_eq]; rfl
theorem spec_l3VarOk_ev (s : ByteArray) (hs : s.size ≤ 140737488351232) : Ev (fun k => spec_l3VarOk.f k s) (varOkM s) := by
  unfold spec_l3VarOk.f varOkM
  refine all_loopB (fun k i => spec_l3VarOk.l0 k s i) (varP s) s.size (in20 s) ?_ ?_ s.size 0 (by omega)
  · intro i hi r hr hn
    have hb := bt_range s i
    have e1 := spec_l3Large_eq (bt s i) hb.1 hb.2
    have e2 := spec_l3Small_eq (bt s i) hb.1 hb.2
    have e3 := spec_l3Digit_eq (bt s i) hb.1 hb.2
    have hw : wrap64 ((i : Int) + 1) = ((i + 1 : Nat) : Int) := by rw [w64 _ (by omega) (by omega)]; rfl
    unfold varP at hr hn
    cases g1 : largeB (bt s i) with
    | true =>
      refine Ev.step (fun k => ?_) (hr (by rw [g1]; rfl))
      simp only [spec_l3VarOk.l0]
      rw [if_pos (by omega), if_pos (by omega), e1, g1, hw]
      rfl
    | false =>
      rw [g1] at hr hn
      by_cases hz : i = 0
      · refine Ev.step (f := fun _ => some false) (fun k => ?_) (ev_cast (hn (by simp [hz])).symm (Ev.now _))
        simp only [spec_l3VarOk.l0]
        rw [if_pos (by omega), if_pos (by omega), e1, g1]
        simp only [Option.bind_some]
        rw [if_neg (by decide), if_pos (by omega)]
      · rw [decide_eq_false hz] at hr hn
        cases g2 : lowB (bt s i) with
        | true =>
          refine Ev.step (fun k => ?_) (hr (by rw [g2]; rfl))
          simp only [spec_l3VarOk.l0]
          rw [if_pos (by omega), if_pos (by omega), e1, g1]
          simp only [Option.bind_some]
          rw [if_neg (by decide), if_neg (by omega), e2, g2, hw]
          rfl
        | false =>
          rw [g2] at hr hn
          cases g3 : digB (bt s i) with
          | true =>
            refine Ev.step (fun k => ?_) (hr (by rw [g3]; rfl))
            simp only [spec_l3VarOk.l0]
            rw [if_pos (by omega), if_pos (by omega), e1, g1]
            simp only [Option.bind_some]
            rw [if_neg (by decide), if_neg (by omega), e2, g2]
            simp only [Option.bind_some]
            rw [if_neg (by decide), e3, g3, hw]
            rfl
          | false =>
            refine Ev.step (f := fun _ => some false) (fun k => ?_) (ev_cast (hn (by rw [g3]; rfl)).symm (Ev.now _))
            simp only [spec_l3VarOk.l0]
            rw [if_pos (by omega), if_pos (by omega), e1, g1]
            simp only [Option.bind_some]
            rw [if_neg (by decide), if_neg (by omega), e2, g2]
            simp only [Option.bind_some]
            rw [if_neg (by decide), e3, g3]
            rfl
  · refine Ev.step (f := fun _ => some (in20 s)) (fun k => ?_) (Ev.now _)
    simp only [spec_l3VarOk.l0]
    rw [if_neg (by omega), spec_l1In_eq]
    rfl
theorem spec_l3MarkOk_l (s : ByteArray) (d : Nat) : ∀ i : Nat, i + d = 14 → Ev (fun k => spec_l3MarkOk.l0 k s i) ((onesL.drop i).any (fun c => decide (s.data.toList = [c]))) := by
  induction d with
  | zero =>
    intro i hi
    have e : i = 14 := by omega
    subst e
    refine Ev.step (f := fun _ => some false) (fun k => ?_) (Ev.now _)
    simp only [spec_l3MarkOk.l0]; rw [if_neg (by omega)]
  | succ d ih =>
    intro i hi
    have hlt : i < onesL.length := by show i < 14; omega
    have hx := ones_at i (by omega)
    have hg : onesL.getD i 0 = onesL[i] := by simp [List.getD_eq_getElem?_getD, List.getElem?_eq_getElem hlt]
    rw [hg] at hx
    have hw : wrap64 ((i : Int) + 1) = ((i + 1 : Nat) : Int) := by rw [w64 _ (by omega) (by omega)]; rfl
    rw [List.drop_eq_getElem_cons hlt, List.any_cons]
    by_cases h : s.data.toList = [onesL[i]]
    · refine Ev.step (f := fun _ => some true) (fun k => ?_) (ev_cast (by rw [decide_eq_true h]; rfl) (Ev.now _))
      simp only [spec_l3MarkOk.l0]
      rw [if_pos (by omega), if_pos (by omega), hw, if_pos (by omega), if_pos (by omega), Int.toNat_natCast, Int.toNat_natCast, if_pos (by rw [tl_inj, hx]; exact h)]
    · refine Ev.step (fun k => ?_) (ev_cast (by rw [decide_eq_false h]; rfl) (ih (i + 1) (by omega)))
      simp only [spec_l3MarkOk.l0]
      rw [if_pos (by omega), if_pos (by omega), hw, if_pos (by omega), if_pos (by omega), Int.toNat_natCast, Int.toNat_natCast, if_neg (by rw [tl_inj, hx]; exact h)]
theorem spec_l3MarkOk_ev (s : ByteArray) : Ev (fun k => spec_l3MarkOk.f k s) (markOkL s.data.toList) := by
  unfold spec_l3MarkOk.f markOkL
  by_cases h1 : s.toList = ([45, 62] : List UInt8)
  · refine ev_pos h1 (Ev.step (f := fun _ => some true) (fun k => by simp only [spec_l3MarkOk.j0]; rfl) (ev_cast ?_ (Ev.now _)))
    rw [Go.Lib.toList_data] at h1
    rw [decide_eq_true h1]; rfl
  · refine ev_neg h1 ?_
    have h1' : ¬ s.data.toList = [45, 62] := by rwa [Go.Lib.toList_data] at h1
    rw [decide_eq_false h1', Bool.false_or]
    by_cases h2 : s.data.toList = [61, 61]
    · refine Ev.step (f := fun _ => some true) (fun k => ?_) (ev_cast (by rw [decide_eq_true h2]; rfl) (Ev.now _))
      simp only [spec_l3MarkOk.j0]
      rw [if_pos (by rw [Go.Lib.toList_data, h2]; rfl)]
    · refine Ev.step (fun k => ?_) (ev_cast (by rw [decide_eq_false h2, Bool.false_or]; rfl) (spec_l3MarkOk_l s 14 0 (by omega)))
      simp only [spec_l3MarkOk.j0]
      rw [if_neg (by rw [Go.Lib.toList_data]; simpa using h2)]
      rfl
theorem spec_TokenOk_ev (a b : Int) (s : ByteArray) (hs : s.size ≤ 140737488351232) : Ev (fun k => spec_TokenOk.f k a b s) (tokOkM a b s) := by
  unfold spec_TokenOk.f tokOkM
  by_cases h1 : a = 1
  · rw [if_pos h1]
    refine ev_pos h1 (ev_of ?_)
    rw [spec_l1In_eq, empty_beq]
    simp only [Option.bind_some]
    cases (decide (0 ≤ b) && decide (b ≤ 1000000000000)) <;> rfl
  rw [if_neg h1]
  refine ev_neg h1 ?_
  have hz : (b == 0) = decide (b = 0) := rfl
  by_cases h2 : a = 2
  · rw [if_pos h2]
    refine ev_pos h2 (Ev.bind (spec_AtomOk_ev s hs) ?_)
    cases atomOkM s with
    | true => exact ev_pos rfl (ev_cast (by rw [Bool.true_and]; rfl) (Ev.now _))
    | false => exact ev_neg (by decide) (Ev.now _)
  rw [if_neg h2]
  refine ev_neg h2 ?_
  by_cases h3 : a = 3
  · rw [if_pos h3]
    refine ev_pos h3 (Ev.bind (spec_l3VarOk_ev s hs) ?_)
    cases varOkM s with
    | true => exact ev_pos rfl (ev_cast (by rw [Bool.true_and]; rfl) (Ev.now _))
    | false => exact ev_neg (by decide) (Ev.now _)
  rw [if_neg h3]
  refine ev_neg h3 ?_
  by_cases h4 : a = 4
  · rw [if_pos h4]
    refine ev_pos h4 (Ev.bind (spec_l3MarkOk_ev s) ?_)
    cases markOkL s.data.toList with
    | true => exact ev_pos rfl (ev_cast (by rw [Bool.true_and]; rfl) (Ev.now _))
    | false => exact ev_neg (by decide) (Ev.now _)
  rw [if_neg h4]
  exact ev_neg h4 (Ev.now _)
theorem impl_inRange_eq (a b c : Int) : impl_inRange.f a b c = some (decide (b ≤ a) && decide (a ≤ c)) := by
  unfold impl_inRange.f
  by_cases h : b ≤ a <;> simp [h]
theorem impl_isSmall_eq (c : Int) : impl_isSmall.f c = some (lowB c) := by
  unfold impl_isSmall.f lowB
  by_cases h : 97 ≤ c <;> simp [h]
theorem impl_isFigure_eq (c : Int) : impl_isFigure.f c = some (digB c) := by
  unfold impl_isFigure.f digB
  by_cases h : 48 ≤ c <;> simp [h]
theorem impl_AtomOk_l (s : ByteArray) (hs : s.size ≤ 140737488351232) (d : Nat) : ∀ i : Nat, i + d = s.size → Ev (fun k => impl_AtomOk.l0 k s i) (atomFrom s i && (decide (1 ≤ (s.size : Int)) && decide ((s.size : Int) ≤ 20))) := by
  induction d with
  | zero =>
    intro i hi
    refine Ev.step (f := fun _ => some (decide (1 ≤ (s.size : Int)) && decide ((s.size : Int) ≤ 20))) (fun k => ?_) (ev_cast ?_ (Ev.now _))
    · simp only [impl_AtomOk.l0]
      rw [if_neg (by omega), impl_inRange_eq]; rfl
    · rw [atomFrom_end s i (by omega)]; rfl
  | succ d ih =>
    intro i hi
    have hlt : i < s.size := by omega
    have hn := ih (i + 1) (by omega)
    rw [atomFrom_step s i hlt]
    by_cases h1 : lowB (bt s i) = true
    · refine Ev.step (fun k => ?_) (ev_cast ?_ hn)
      · simp only [impl_AtomOk.l0]
        rw [if_pos (by omega), if_pos (by omega), impl_isSmall_eq]
        simp only [Option.bind_some]
        rw [if_pos h1, w64 _ (by omega) (by omega)]
        rfl
      · rw [h1]; rfl
    · have h1' : lowB (bt s i) = false := by simpa using h1
      by_cases h0 : i = 0
      · refine Ev.step (f := fun _ => some false) (fun k => ?_) (ev_cast ?_ (Ev.now _))
        · simp only [impl_AtomOk.l0]
          rw [if_pos (by omega), if_pos (by omega), impl_isSmall_eq]
          simp only [Option.bind_some]
          rw [if_neg h1, if_pos (by omega)]
        · rw [h1']; simp [h0]
      · by_cases h2 : digB (bt s i) = true
        · refine Ev.step (fun k => ?_) (ev_cast ?_ hn)
          · simp only [impl_AtomOk.l0]
            rw [if_pos (by omega), if_pos (by omega), impl_isSmall_eq]
            simp only [Option.bind_some]
            rw [if_neg h1, if_neg (by omega), impl_isFigure_eq]
            simp only [Option.bind_some]
            rw [if_pos h2, w64 _ (by omega) (by omega)]
            rfl
          · rw [h2]; simp [h0]
        · have h2' : digB (bt s i) = false := by simpa using h2
          by_cases h3 : bt s i = 95
          · refine Ev.step (fun k => ?_) (ev_cast ?_ hn)
            · simp only [impl_AtomOk.l0]
              rw [if_pos (by omega), if_pos (by omega), impl_isSmall_eq]
              simp only [Option.bind_some]
              rw [if_neg h1, if_neg (by omega), impl_isFigure_eq]
              simp only [Option.bind_some]
              rw [if_neg h2, if_pos h3, w64 _ (by omega) (by omega)]
              rfl
            · simp [h0, h3]
          · refine Ev.step (f := fun _ => some false) (fun k => ?_) (ev_cast ?_ (Ev.now _))
            · simp only [impl_AtomOk.l0]
              rw [if_pos (by omega), if_pos (by omega), impl_isSmall_eq]
              simp only [Option.bind_some]
              rw [if_neg h1, if_neg (by omega), impl_isFigure_eq]
              simp only [Option.bind_some]
              rw [if_neg h2, if_neg h3]
            · rw [h1', h2']; simp [h3]
theorem impl_AtomOk_ev (s : ByteArray) (hs : s.size ≤ 140737488351232) : Ev (fun k => impl_AtomOk.f k s) (atomOkM s) := impl_AtomOk_l s hs s.size 0 (by omega)
theorem impl_isLarge_eq (c : Int) : impl_isLarge.f c = some (largeB c) := by
  unfold impl_isLarge.f largeB
  by_cases h : c ≥ 65
  · rw [if_pos h]
    by_cases h2 : c ≤ 90
    · rw [if_pos h2]; simp [h2]; omega
    · rw [if_neg h2]; simp [h2]; rfl
  · rw [if_neg h]; simp; rw [decide_eq_false (by omega)]; simp; rfl
theorem impl_isWord_eq (c : Int) : impl_isWordByte.f c = some (lowB c || (largeB c || digB c)) := by
  unfold impl_isWordByte.f
  rw [impl_isSmall_eq, impl_isLarge_eq, impl_isFigure_eq]
  cases lowB c <;> cases largeB c <;> rfl
theorem impl_varOk_ev (s : ByteArray) (hs : s.size ≤ 140737488351232) : Ev (fun k => impl_varOk.f k s) (varOkM s) := by
  rw [← varOk_same]
  unfold impl_varOk.f
  refine all_loopB (fun k i => impl_varOk.l0 k s i) (varQ s) s.size (in20 s && largeB (bt s 0)) ?_ ?_ s.size 0 (by omega)
  · intro i hi r hr hn
    have e1 := impl_isWord_eq (bt s i)
    have hw : wrap64 ((i : Int) + 1) = ((i + 1 : Nat) : Int) := by rw [w64 _ (by omega) (by omega)]; rfl
    have hq : varQ s i = (lowB (bt s i) || (largeB (bt s i) || digB (bt s i))) := rfl
    rw [← hq] at e1
    cases g : varQ s i with
    | true =>
      refine Ev.step (fun k => ?_) (hr g)
      simp only [impl_varOk.l0]
      rw [if_pos (by omega), if_pos (by omega), e1, g, hw]
      rfl
    | false =>
      refine Ev.step (f := fun _ => some false) (fun k => ?_) (ev_cast (hn g).symm (Ev.now _))
      simp only [impl_varOk.l0]
      rw [if_pos (by omega), if_pos (by omega), e1, g]
      rfl
  · refine Ev.step (f := fun _ => some (in20 s && largeB (bt s 0))) (fun k => ?_) (Ev.now _)
    simp only [impl_varOk.l0]
    rw [if_neg (by omega), impl_inRange_eq, impl_isLarge_eq]
    have hi : (decide (1 ≤ (s.size : Int)) && decide ((s.size : Int) ≤ 20)) = in20 s := rfl
    rw [hi]
    simp only [Option.bind_some]
    cases h : in20 s with
    | true =>
      unfold in20 at h
      rw [Bool.and_eq_true, decide_eq_true_eq, decide_eq_true_eq] at h
      rw [if_pos rfl, if_pos (by omega)]; rfl
    | false => rw [if_neg (by decide)]; rfl
theorem hasPrefix2 (s : ByteArray) (a b : UInt8) : strings_HasPrefix.f s (⟨#[a, b]⟩ : ByteArray) = some (decide (s.data.toList.take 2 = [a, b])) := by
  unfold strings_HasPrefix.f stringslite_HasPrefix.f
  have hsz : ((⟨#[a, b]⟩ : ByteArray).size : Int) = 2 := rfl
  rw [hsz]
  by_cases h : (s.size : Int) ≥ 2
  · rw [if_pos h, if_pos (by omega), if_pos (by omega)]
    have e : ((s.extract 0 (2 : Int).toNat).toList == (⟨#[a, b]⟩ : ByteArray).toList) = decide (s.data.toList.take 2 = [a, b]) := by
      rw [Go.Lib.toList_data, Go.Lib.toList_data, tlx, Bool.eq_iff_iff, beq_iff_eq, decide_eq_true_eq]
      exact Iff.rfl
    rw [e]; rfl
  · rw [if_neg h]
    have hl : s.data.toList.length < 2 := by rw [← size_len]; omega
    have : ¬ s.data.toList.take 2 = [a, b] := by
      intro hq
      have := congrArg List.length hq
      rw [List.length_take] at this
      simp at this
      omega
    rw [decide_eq_false this]; rfl
theorem impl_markOf_ev (s : ByteArray) (c : UInt8) (l : List UInt8) (hs : s.data.toList = c :: l) : ∃ r : ByteArray, Ev (fun k => impl_markOf.f k s) r ∧ (r.toList == s.toList) = markOkL (c :: l) := by
  unfold impl_markOf.f
  have h0 : 0 < s.size := by rw [size_len, hs]; simp
  have e1 := hasPrefix2 s 45 62
  have e2 := hasPrefix2 s 61 61
  have hb := bt0 s c l hs
  rw [hs] at e1 e2
  by_cases p1 : (c :: l).take 2 = [45, 62]
  · refine ⟨⟨#[45, 62]⟩, Ev.step (f := fun _ => some ⟨#[45, 62]⟩) (fun k => ?_) (Ev.now _), ?_⟩
    · simp only [impl_markOf.l0]
      rw [if_pos (by omega), if_pos trivial, e1, decide_eq_true p1]
      rfl
    · rw [Go.Lib.toList_data, Go.Lib.toList_data, hs]
      unfold markOkL
      cases l with
      | nil => simp at p1
      | cons d l =>
        simp only [List.take_succ_cons, List.take_zero, List.cons.injEq, and_true] at p1
        obtain ⟨rfl, rfl⟩ := p1
        cases l with
        | nil => decide
        | cons e l => simp [onesL]
  · by_cases p2 : (c :: l).take 2 = [61, 61]
    · refine ⟨⟨#[61, 61]⟩, Ev.step (f := fun k => impl_markOf.l0 k s (0 + 1)) (fun k => ?_) (Ev.step (f := fun _ => some ⟨#[61, 61]⟩) (fun k => ?_) (Ev.now _)), ?_⟩
      · simp only [impl_markOf.l0]
        rw [if_pos (by omega), if_pos trivial, e1, decide_eq_false p1]
        rfl
      · simp only [impl_markOf.l0]
        rw [if_pos (by omega), if_neg (by omega), if_pos (by omega), e2, decide_eq_true p2]
        rfl
      · rw [Go.Lib.toList_data, Go.Lib.toList_data, hs]
        unfold markOkL
        cases l with
        | nil => simp at p2
        | cons d l =>
          simp only [List.take_succ_cons, List.take_zero, List.cons.injEq, and_true] at p2
          obtain ⟨rfl, rfl⟩ := p2
          cases l with
          | nil => decide
          | cons e l => simp [onesL]
    · have step : ∀ r : ByteArray, (∀ k, impl_markOf.l0 (k + 1) s (1 + 1) = some r) → Ev (fun k => impl_markOf.l0 k s 0) r := by
        intro r hr
        refine Ev.step (f := fun k => impl_markOf.l0 k s (0 + 1)) (fun k => ?_) (Ev.step (f := fun k => impl_markOf.l0 k s (1 + 1)) (fun k => ?_) (Ev.step (f := fun _ => some r) hr (Ev.now _)))
        · simp only [impl_markOf.l0]
          rw [if_pos (by omega), if_pos trivial, e1, decide_eq_false p1]
          rfl
        · simp only [impl_markOf.l0]
          rw [if_pos (by omega), if_neg (by omega), if_pos (by omega), e2, decide_eq_false p2]
          rfl
      have hx : ∀ c, Go.Lib.indexByte (⟨#[40, 41, 123, 125, 91, 93, 44, 46, 59, 124, 60, 43, 45, 42]⟩ : ByteArray).data.toList c ≥ 0 ↔ c ∈ onesL := ixb onesL
      have n1 : ¬ (c :: l) = [45, 62] := fun h => p1 (by rw [h]; rfl)
      have n2 : ¬ (c :: l) = [61, 61] := fun h => p2 (by rw [h]; rfl)
      by_cases hc : c ∈ onesL
      · refine ⟨s.extract 0 1, step _ (fun k => ?_), ?_⟩
        · simp only [impl_markOf.l0]
          rw [if_neg (by omega), if_pos (by omega)]
          unfold strings_IndexByte.f stringslite_IndexByte.f
          simp only [Option.bind_some]
          rw [hb, if_pos ((hx c).2 hc), if_pos (by omega), if_pos (by omega)]
        · rw [Go.Lib.toList_data, Go.Lib.toList_data, tlx, hs]
          unfold markOkL
          rw [decide_eq_false n1, decide_eq_false n2, Bool.false_or, Bool.false_or, Bool.eq_iff_iff, beq_iff_eq, List.any_eq_true]
          simp only [List.take_succ_cons, List.take_zero, decide_eq_true_eq]
          constructor
          · intro h
            exact ⟨c, hc, h.symm⟩
          · rintro ⟨d, _, h⟩
            injection h with h h2
            rw [h2]
      · refine ⟨⟨#[]⟩, step _ (fun k => ?_), ?_⟩
        · simp only [impl_markOf.l0]
          rw [if_neg (by omega), if_pos (by omega)]
          unfold strings_IndexByte.f stringslite_IndexByte.f
          simp only [Option.bind_some]
          rw [hb, if_neg (fun h => hc ((hx c).1 h))]
        · rw [Go.Lib.toList_data, Go.Lib.toList_data, hs]
          unfold markOkL
          rw [decide_eq_false n1, decide_eq_false n2, Bool.false_or, Bool.false_or, Bool.eq_iff_iff, beq_iff_eq, List.any_eq_true]
          constructor
          · intro h; cases h
          · rintro ⟨d, hd, h⟩
            rw [decide_eq_true_eq] at h
            injection h with h h2
            exact absurd (h ▸ hd) hc
theorem impl_TokenOk_ev (a b : Int) (s : ByteArray) (hs : s.size ≤ 140737488351232) : Ev (fun k => impl_TokenOk.f k a b s) (tokOkM a b s) := by
  unfold impl_TokenOk.f tokOkM
  by_cases h1 : a = 1
  · rw [if_pos h1]
    refine ev_pos h1 (ev_of ?_)
    rw [impl_inRange_eq, empty_beq]
    simp only [Option.bind_some]
    cases (decide (0 ≤ b) && decide (b ≤ 1000000000000)) <;> rfl
  rw [if_neg h1]
  refine ev_neg h1 ?_
  by_cases h2 : a = 2
  · rw [if_pos h2]
    refine ev_pos h2 ?_
    by_cases hb : b = 0
    · exact ev_pos hb (Ev.bind (impl_AtomOk_ev s hs) (ev_cast (by rw [decide_eq_true hb, Bool.and_true]) (Ev.now _)))
    · exact ev_neg hb (ev_cast (by rw [decide_eq_false hb, Bool.and_false]) (Ev.now _))
  rw [if_neg h2]
  refine ev_neg h2 ?_
  by_cases h3 : a = 3
  · rw [if_pos h3]
    refine ev_pos h3 ?_
    by_cases hb : b = 0
    · exact ev_pos hb (Ev.bind (impl_varOk_ev s hs) (ev_cast (by rw [decide_eq_true hb, Bool.and_true]) (Ev.now _)))
    · exact ev_neg hb (ev_cast (by rw [decide_eq_false hb, Bool.and_false]) (Ev.now _))
  rw [if_neg h3]
  refine ev_neg h3 ?_
  by_cases h4 : a = 4
  · rw [if_pos h4]
    refine ev_pos h4 ?_
    by_cases hb : b = 0
    · refine ev_pos hb ?_
      rw [decide_eq_true hb, Bool.and_true]
      cases hl : s.data.toList with
      | nil => exact ev_pos (by rw [Go.Lib.toList_data, hl]) (ev_cast (by decide) (Ev.now _))
      | cons c l =>
        obtain ⟨r, e, hr⟩ := impl_markOf_ev s c l hl
        exact ev_neg (by rw [Go.Lib.toList_data, hl]; simp) (Ev.bind e (ev_cast hr (Ev.now _)))
    · exact ev_neg hb (ev_cast (by rw [decide_eq_false hb, Bool.and_false]) (Ev.now _))
  rw [if_neg h4]
  exact ev_neg h4 (Ev.now _)
theorem ba_app (a b : List UInt8) : ((⟨a.toArray⟩ : ByteArray) ++ (⟨b.toArray⟩ : ByteArray)) = ⟨(a ++ b).toArray⟩ := by
  apply ByteArray.ext
  simp [ByteArray.data_append]
theorem ba_size (a : List UInt8) : (⟨a.toArray⟩ : ByteArray).size = a.length := by simp [ByteArray.size]
theorem dig_num (u : Nat) (h : u < 10) : strOfNums [(48 + (u : Int)) % 256] = ⟨[UInt8.ofNat (48 + u)].toArray⟩ := by
  unfold strOfNums
  have e : ((48 + (u : Int)) % 256).toNat = 48 + u := by omega
  simp [e]
theorem spec_l2Int_pos (u : Nat) : (u : Int) ≤ 9000000000000000000 → Ev (fun k => spec_l2Int.f k (u : Int)) ⟨(Go.Lib.decDigits u).toArray⟩ := by
  induction u using Nat.strongRecOn with
  | _ u ih =>
  intro hu
  have h0 : ¬ ((u : Int) < 0) := by omega
  by_cases h : u < 10
  · have h10 : (u : Int) < 10 := by omega
    refine Ev.step (f := fun _ => some (⟨(Go.Lib.decDigits u).toArray⟩ : ByteArray)) (fun k => ?_) (Ev.now _)
    simp only [spec_l2Int.f]
    rw [if_neg h0, if_pos h10, w64 _ (by omega) (by omega), dig_num u h, Go.Lib.decDigits_one h]
  · have h10 : ¬ (u : Int) < 10 := by omega
    have hd : Int.tdiv (u : Int) 10 = ((u / 10 : Nat) : Int) := by
      rw [Int.tdiv_eq_ediv_of_nonneg (by omega)]; omega
    have hm : Int.tmod (u : Int) 10 = ((u % 10 : Nat) : Int) := by
      rw [Int.tmod_eq_emod_of_nonneg (by omega)]; omega
    have e1 := ih (u / 10) (by omega) (by omega)
    have hl : (Go.Lib.decDigits (u / 10)).length ≤ 9223372036854775000 := by
      have : ∀ v : Nat, (Go.Lib.decDigits v).length ≤ v + 1 := by
        intro v
        induction v using Nat.strongRecOn with
        | _ v ihv =>
          by_cases hv : v < 10
          · rw [Go.Lib.decDigits_one hv]; simp
          · rw [Go.Lib.decDigits, dif_neg hv]
            have := ihv (v / 10) (by omega)
            simp only [List.length_append, List.length_singleton]
            omega
      have := this (u / 10)
      omega
    refine Ev.step (f := fun k => (spec_l2Int.f k ((u / 10 : Nat) : Int)).bind fun t => some (t ++ (⟨[UInt8.ofNat (48 + u % 10)].toArray⟩ : ByteArray))) (fun k => ?_) (Ev.bind e1 (ev_cast ?_ (Ev.now _)))
    · simp only [spec_l2Int.f]
      rw [if_neg h0, if_neg h10, hd, hm, w64 _ (by omega) (by omega), w64 _ (by omega) (by omega)]
      simp only [Option.bind_some]
      rw [dig_num (u % 10) (by omega)]
      cases hk : spec_l2Int.f k ((u / 10 : Nat) : Int) with
      | none => rfl
      | some t =>
        simp only [Option.bind_some]
        have ht : t = ⟨(Go.Lib.decDigits (u / 10)).toArray⟩ := ev_uniq (Ev.of (g := fun k => spec_l2Int.f k ((u / 10 : Nat) : Int)) (fun k => spec_l2Int.mono _ k) hk) e1
        rw [if_pos]
        rw [ht, ba_size, ba_size]
        simp
        omega
    · rw [ba_app]
      conv => rhs; rw [Go.Lib.decDigits, dif_neg h]
theorem spec_l2Int_ev (n : Int) (h0 : -9000000000000000000 ≤ n) (h1 : n ≤ 9000000000000000000) : Ev (fun k => spec_l2Int.f k n) ⟨(Go.Lib.itoa n).toArray⟩ := by
  by_cases h : n < 0
  · obtain ⟨u, rfl⟩ : ∃ u : Nat, n = -(u : Int) := ⟨n.natAbs, by omega⟩
    have e1 := spec_l2Int_pos u (by omega)
    have hl : (Go.Lib.decDigits u).length ≤ 9223372036854775000 := by
      have : ∀ v : Nat, (Go.Lib.decDigits v).length ≤ v + 1 := by
        intro v
        induction v using Nat.strongRecOn with
        | _ v ihv =>
          by_cases hv : v < 10
          · rw [Go.Lib.decDigits_one hv]; simp
          · rw [Go.Lib.decDigits, dif_neg hv]
            have := ihv (v / 10) (by omega)
            simp only [List.length_append, List.length_singleton]
            omega
      have := this u
      omega
    refine Ev.step (f := fun k => (spec_l2Int.f k (u : Int)).bind fun t => some ((⟨#[45]⟩ : ByteArray) ++ t)) (fun k => ?_) (Ev.bind e1 (ev_cast ?_ (Ev.now _)))
    · simp only [spec_l2Int.f]
      rw [if_pos h, w64 _ (by omega) (by omega), Int.neg_neg]
      cases hk : spec_l2Int.f k (u : Int) with
      | none => rfl
      | some t =>
        simp only [Option.bind_some]
        have ht : t = ⟨(Go.Lib.decDigits u).toArray⟩ := ev_uniq (Ev.of (g := fun k => spec_l2Int.f k (u : Int)) (fun k => spec_l2Int.mono _ k) hk) e1
        rw [if_pos]
        rw [ht, ba_size]
        omega
    · have e2 : (⟨#[45]⟩ : ByteArray) = ⟨[45].toArray⟩ := rfl
      rw [e2, ba_app, Go.Lib.itoa_neg u (by omega)]
      rfl
  · obtain ⟨u, rfl⟩ : ∃ u : Nat, n = (u : Int) := ⟨n.toNat, by omega⟩
    rw [Go.Lib.itoa_nonneg]
    exact spec_l2Int_pos u h1
theorem strconv_Itoa_eq (n : Int) (h0 : -9223372036854775808 ≤ n) (h1 : n ≤ 9223372036854775807) : strconv_Itoa.f n = some ⟨(Go.Lib.itoa n).toArray⟩ := by
  unfold strconv_Itoa.f
  rw [if_pos ⟨h0, h1⟩]
def tokTextM (a b : Int) (s : ByteArray) : ByteArray := if tokOkM a b s = true then (if a = 1 then ⟨(Go.Lib.itoa b).toArray⟩ else s) else ⟨#[]⟩
theorem tokOk_int {a b : Int} {s : ByteArray} (h : tokOkM a b s = true) (ha : a = 1) : 0 ≤ b ∧ b ≤ 1000000000000 := by
  unfold tokOkM at h
  rw [if_pos ha] at h
  simp only [Bool.and_eq_true, decide_eq_true_eq] at h
  exact h.1
theorem tokTextM_int {a b : Int} {s : ByteArray} (h : tokOkM a b s = true) (h1 : a = 1) : ⟨(Go.Lib.itoa b).toArray⟩ = tokTextM a b s := by unfold tokTextM; rw [if_pos h, if_pos h1]
theorem tokTextM_str {a b : Int} {s : ByteArray} (h : tokOkM a b s = true) (h1 : ¬ a = 1) : s = tokTextM a b s := by unfold tokTextM; rw [if_pos h, if_neg h1]
theorem tokTextM_no {a b : Int} {s : ByteArray} (h : ¬ tokOkM a b s = true) : ⟨#[]⟩ = tokTextM a b s := by unfold tokTextM; rw [if_neg h]
theorem spec_TokenText_ev (a b : Int) (s : ByteArray) (hs : s.size ≤ 140737488351232) : Ev (fun k => spec_TokenText.f k a b s) (tokTextM a b s) := by
  unfold spec_TokenText.f
  refine Ev.bind (spec_TokenOk_ev a b s hs) ?_
  by_cases h : tokOkM a b s = true
  · refine ev_pos h ?_
    unfold spec_l3Text.f
    by_cases h1 : a = 1
    · obtain ⟨hb0, hb1⟩ := tokOk_int h h1
      exact ev_cast (tokTextM_int h h1) (Ev.bind (ev_pos h1 (Ev.bind (spec_l2Int_ev b (by omega) (by omega)) (Ev.now _))) (Ev.now _))
    · exact ev_cast (tokTextM_str h h1) (Ev.bind (ev_neg h1 (Ev.now _)) (Ev.now _))
  · exact ev_cast (tokTextM_no h) (ev_neg h (Ev.now _))
theorem impl_TokenText_ev (a b : Int) (s : ByteArray) (hs : s.size ≤ 140737488351232) : Ev (fun k => impl_TokenText.f k a b s) (tokTextM a b s) := by
  unfold impl_TokenText.f
  refine Ev.bind (impl_TokenOk_ev a b s hs) ?_
  by_cases h : tokOkM a b s = true
  · refine ev_pos h ?_
    by_cases h1 : a = 1
    · obtain ⟨hb0, hb1⟩ := tokOk_int h h1
      refine ev_cast (tokTextM_int h h1) (ev_pos h1 (ev_of ?_))
      rw [strconv_Itoa_eq b (by omega) (by omega)]
      rfl
    · exact ev_cast (tokTextM_str h h1) (ev_neg h1 (Ev.now _))
  · exact ev_cast (tokTextM_no h) (ev_neg h (Ev.now _))
theorem decDigits_le : ∀ (m u : Nat), u < 10 ^ (m + 1) → (Go.Lib.decDigits u).length ≤ m + 1
  | 0, u, h => by rw [Go.Lib.decDigits_one (by omega)]; simp
  | m + 1, u, h => by
    by_cases hu : u < 10
    · rw [Go.Lib.decDigits_one hu]; simp
    · rw [Go.Lib.decDigits, dif_neg hu, List.length_append, List.length_singleton]
      have := decDigits_le m (u / 10) (by rw [Nat.pow_succ] at h; omega)
      omega
theorem itoa_le (n : Int) (h0 : -9223372036854775808 ≤ n) (h1 : n ≤ 9223372036854775807) : (Go.Lib.itoa n).length ≤ 20 := by
  unfold Go.Lib.itoa
  by_cases h : n < 0
  · rw [if_pos h]
    have := decDigits_le 18 n.natAbs (by omega)
    simp only [List.length_cons]; omega
  · rw [if_neg h]
    have := decDigits_le 18 n.toNat (by omega)
    omega
theorem ba_eta (s : ByteArray) : (⟨s.data.toList.toArray⟩ : ByteArray) = s := by
  cases s; simp
theorem ba_cat (a b : ByteArray) : (a ++ b).data.toList = a.data.toList ++ b.data.toList := by simp [ByteArray.data_append]
theorem ba_mk {a : ByteArray} {l : List UInt8} (h : a.data.toList = l) : a = ⟨l.toArray⟩ := by rw [← h, ba_eta]
def sumS (l : List ByteArray) : Nat := sumB (fun s => s.size) l
theorem joinTail_len (sep : List UInt8) : ∀ r : List (List UInt8), (Go.Lib.joinTail sep r).length = sumB (fun x => sep.length + x.length) r
  | [] => by simp [Go.Lib.joinTail, sumB]
  | x :: r => by
    have := joinTail_len sep r
    unfold Go.Lib.joinTail at this ⊢
    rw [List.map_cons, List.flatten_cons, List.length_append, this, sumB, List.length_append]
theorem join_cons (sep x : List UInt8) (r : List (List UInt8)) : Go.Lib.join (x :: r) sep = x ++ Go.Lib.joinTail sep r := Go.Lib.join_cons x r sep
theorem sumB_map {α β : Type} (f : β → Nat) (g : α → β) : ∀ l : List α, sumB f (l.map g) = sumB (fun x => f (g x)) l
  | [] => rfl
  | x :: r => by rw [List.map_cons, sumB, sumB, sumB_map f g r]
theorem sumB_le {α : Type} (f g : α → Nat) (c : Nat) : ∀ l : List α, (∀ x ∈ l, f x ≤ g x + c) → sumB f l ≤ sumB g l + c * l.length
  | [], _ => by simp [sumB]
  | x :: r, h => by
    have h1 := h x (List.mem_cons_self)
    have h2 := sumB_le f g c r (fun y hy => h y (List.mem_cons_of_mem _ hy))
    rw [sumB, sumB, List.length_cons, Nat.mul_add]
    omega
theorem join_len (sep : List UInt8) (l : List (List UInt8)) : (Go.Lib.join l sep).length ≤ sumB List.length l + sep.length * l.length := by
  cases l with
  | nil => simp [Go.Lib.join_nil, sumB]
  | cons x r =>
    rw [join_cons, List.length_append, joinTail_len, sumB, List.length_cons, Nat.mul_add]
    have := sumB_le (fun x => sep.length + x.length) List.length sep.length r (fun y _ => by omega)
    omega
def tkT (x : S42) : ByteArray := tokTextM x.f0 x.f1 x.f2
theorem tkT_size (x : S42) : (tkT x).size ≤ x.f2.size + 20 := by
  unfold tkT tokTextM
  by_cases h : tokOkM x.f0 x.f1 x.f2 = true
  · rw [if_pos h]
    by_cases h1 : x.f0 = 1
    · rw [if_pos h1, ba_size]
      obtain ⟨a, b⟩ := tokOk_int h h1
      have := itoa_le x.f1 (by omega) (by omega)
      omega
    · rw [if_neg h1]; omega
  · rw [if_neg h]
    show 0 ≤ _
    omega
def joinT (l : List S42) : ByteArray := ⟨(Go.Lib.join (l.map fun x => (tkT x).data.toList) [32]).toArray⟩
def tkB (x : S42) : Nat := x.f2.size
theorem sp32 : (⟨#[32]⟩ : ByteArray).data.toList = [32] := rfl
theorem spec_join_loop (l : List S42) (hl : (l.length : Int) ≤ 1048576) (hb : (sumB tkB l : Int) ≤ 1048576) (d : Nat) : ∀ (i : Nat) (acc : ByteArray), 0 < i → i + d = l.length → acc.size + sumB (fun x => 1 + (tkT x).size) (l.drop i) ≤ 100000000 →
    Ev (fun k => spec_JoinTokens.l0 k l acc i) ⟨(acc.data.toList ++ Go.Lib.joinTail [32] ((l.drop i).map fun x => (tkT x).data.toList)).toArray⟩ := by
  induction d with
  | zero =>
    intro i acc hi0 hi hs
    refine Ev.step (f := fun _ => some acc) (fun k => ?_) (ev_cast ?_ (Ev.now _))
    · simp only [spec_JoinTokens.l0]; rw [if_neg (by omega)]
    · rw [List.drop_eq_nil_of_le (by omega)]
      simp [Go.Lib.joinTail]
  | succ d ih =>
    intro i acc hi0 hi hs
    have hlt : i < l.length := by omega
    rw [sumB_drop _ l i hlt] at hs
    have hm : l[i].f2.size ≤ sumB tkB l := sumB_mem tkB l _ (List.getElem_mem hlt)
    have hz : (tkT l[i]).size ≤ 3000000 := by
      have := tkT_size l[i]; omega
    have h1 : (acc ++ (⟨#[32]⟩ : ByteArray)).size = acc.size + 1 := by rw [ByteArray.size_append]; rfl
    refine Ev.step (f := fun k => (spec_TokenText.f k l[i].f0 l[i].f1 l[i].f2).bind fun t133 => (if (acc ++ (⟨#[32]⟩ : ByteArray)).size + t133.size ≤ 9223372036854775807 then (spec_JoinTokens.l0 k l ((acc ++ (⟨#[32]⟩ : ByteArray)) ++ t133) (wrap64 ((i : Int) + 1))) else (none))) (fun k => ?_) (Ev.bind (spec_TokenText_ev l[i].f0 l[i].f1 l[i].f2 (by omega)) (ev_pos (by rw [h1]; show _ + (tkT l[i]).size ≤ _; omega) ?_))
    · simp only [spec_JoinTokens.l0]
      rw [if_pos (by omega), if_pos (by omega), if_pos (by omega), if_pos (by omega), rd_it l i hlt]
    · rw [w64 _ (by omega) (by omega)]
      refine ev_cast ?_ (ih (i + 1) ((acc ++ (⟨#[32]⟩ : ByteArray)) ++ tkT l[i]) (by omega) (by omega) (by rw [ByteArray.size_append, h1]; omega))
      rw [List.drop_eq_getElem_cons hlt, List.map_cons]
      simp only [Go.Lib.joinTail, List.map_cons, List.flatten_cons]
      rw [ba_cat, ba_cat, sp32]
      simp
theorem tk_sum (l : List S42) (hl : (l.length : Int) ≤ 1048576) (hb : (sumB tkB l : Int) ≤ 1048576) : sumB (fun x => 1 + (tkT x).size) l ≤ 50000000 := by
  have := sumB_le (fun x => 1 + (tkT x).size) tkB 21 l (fun x _ => by have := tkT_size x; unfold tkB; omega)
  omega
theorem spec_JoinTokens_ev (l : List S42) (hl : (l.length : Int) ≤ 1048576) (hb : (sumB tkB l : Int) ≤ 1048576) : Ev (fun k => spec_JoinTokens.f k l) (joinT l) := by
  unfold spec_JoinTokens.f
  cases l with
  | nil =>
    refine Ev.step (f := fun _ => some (⟨#[]⟩ : ByteArray)) (fun k => ?_) (Ev.now _)
    simp only [spec_JoinTokens.l0]; rw [if_neg (by simp)]
  | cons x r =>
    have hs := tk_sum (x :: r) hl hb
    rw [sumB] at hs
    have hm : x.f2.size ≤ sumB tkB (x :: r) := sumB_mem tkB (x :: r) x List.mem_cons_self
    have e0 : (⟨#[]⟩ : ByteArray).size = 0 := rfl
    refine Ev.step (f := fun k => (spec_TokenText.f k x.f0 x.f1 x.f2).bind fun t135 => (if (⟨#[]⟩ : ByteArray).size + t135.size ≤ 9223372036854775807 then (spec_JoinTokens.l0 k (x :: r) ((⟨#[]⟩ : ByteArray) ++ t135) (wrap64 (0 + 1))) else (none))) (fun k => ?_) (Ev.bind (spec_TokenText_ev x.f0 x.f1 x.f2 (by omega)) (ev_pos (by rw [e0]; show _ + (tkT x).size ≤ _; omega) ?_))
    · simp only [spec_JoinTokens.l0]
      rw [if_pos (by simp only [List.length_cons]; omega), if_neg (by omega), if_pos (by omega)]
      rfl
    · rw [w64 _ (by omega) (by omega)]
      have q := spec_join_loop (x :: r) hl hb r.length 1 ((⟨#[]⟩ : ByteArray) ++ tkT x) (by omega) (by rw [List.length_cons]; omega) (by rw [ByteArray.size_append, e0]; show _ + sumB _ r ≤ _; omega)
      refine ev_cast ?_ q
      unfold joinT
      rw [List.map_cons, join_cons, ba_cat]
      rfl
theorem impl_join_loop (l : List S42) (hl : (l.length : Int) ≤ 1048576) (hb : (sumB tkB l : Int) ≤ 1048576) (d : Nat) : ∀ (i : Nat), i + d = l.length →
    Ev (fun k => impl_JoinTokens.l0 k ((l.take i).map tkT) l (l.length : Int) i) (joinT l) := by
  induction d with
  | zero =>
    intro i hi
    have hs := tk_sum l hl hb
    have e1 : ((l.map tkT).map (·.data.toList)) = l.map fun x => (tkT x).data.toList := by rw [List.map_map]; rfl
    refine Ev.step (f := fun _ => some (joinT l)) (fun k => ?_) (Ev.now _)
    simp only [impl_JoinTokens.l0]
    rw [if_neg (by omega), List.take_of_length_le (by omega)]
    unfold strings_Join.f
    rw [e1, sp32, if_pos]
    · rfl
    · refine ⟨by rw [List.length_map]; omega, ?_⟩
      have h1 := join_len [32] (l.map fun x => (tkT x).data.toList)
      rw [sumB_map, List.length_map] at h1
      have h2 := sumB_le (fun x => ((tkT x).data.toList).length) (fun x => 1 + (tkT x).size) 0 l (fun x _ => by rw [← size_len]; omega)
      simp only [List.length_singleton] at h1
      omega
  | succ d ih =>
    intro i hi
    have hlt : i < l.length := by omega
    have hm : l[i].f2.size ≤ sumB tkB l := sumB_mem tkB l _ (List.getElem_mem hlt)
    refine Ev.step (f := fun k => (impl_TokenText.f k l[i].f0 l[i].f1 l[i].f2).bind fun t171 => (if ((l.take i).map tkT).length < 8796093022208 then (impl_JoinTokens.l0 k ((l.take i).map tkT ++ [t171]) l (l.length : Int) (wrap64 ((i : Int) + 1))) else (none))) (fun k => ?_) (Ev.bind (impl_TokenText_ev l[i].f0 l[i].f1 l[i].f2 (by omega)) (ev_pos (by rw [List.length_map, List.length_take]; omega) ?_))
    · simp only [impl_JoinTokens.l0]
      rw [if_pos (by omega), if_pos (by omega), if_pos (by omega), rd_it l i hlt]
    · rw [w64 _ (by omega) (by omega)]
      refine Ev.congr (fun k => ?_) (ih (i + 1) (by omega))
      rw [List.take_succ_eq_append_getElem hlt, List.map_append]
      rfl
theorem impl_JoinTokens_ev (l : List S42) (hl : (l.length : Int) ≤ 1048576) (hb : (sumB tkB l : Int) ≤ 1048576) : Ev (fun k => impl_JoinTokens.f k l) (joinT l) := by
  unfold impl_JoinTokens.f
  exact impl_join_loop l hl hb l.length 0 (by omega)
theorem FnExactJoinTokens : laws_FnExactJoinTokens.Pure := by
  intro l hl hw
  unfold maxLen at hl
  refine Ev.rounds (g := fun k => laws_FnExactJoinTokens.f k l) ?_
  unfold laws_FnExactJoinTokens.f
  refine Ev.bind (szTokenS_ev l (by omega) hw 1048576 (by omega) (by omega)) ?_
  unfold szRes
  by_cases hb : ((l.length + sumB budTok l : Nat) : Int) ≤ 1048576
  · rw [if_pos hb]
    have e1 : sumB tkB (l.map cvTok) = sumB budTok l := by rw [sumB_map]; rfl
    have h1 : ((l.map cvTok).length : Int) ≤ 1048576 := by rw [List.length_map]; omega
    have h2 : (sumB tkB (l.map cvTok) : Int) ≤ 1048576 := by rw [e1]; omega
    exact ev_neg (by omega) (Ev.bind (toTokenS_ev l (by omega)) (Ev.bind (spec_JoinTokens_ev _ h1 h2) (Ev.bind (toTokenS_ev l (by omega)) (Ev.bind (impl_JoinTokens_ev _ h1 h2) (ev_pos rfl (Ev.bind (toTokenS_ev l (by omega)) (Ev.bind (eqTokenS_ev _ (by omega)) (ev_pos rfl (Ev.now _)))))))))
  · rw [if_neg hb]
    exact ev_pos (by omega) (Ev.now _)

end Go.Proofs.YtpbhbpffpkedcaaDoor.Pure
