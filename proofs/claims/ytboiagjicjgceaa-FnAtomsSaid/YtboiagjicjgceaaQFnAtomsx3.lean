-- Written by a program of this workplace (print2.py) for this claim, over the print's words.
import Derived.Test.YtboiagjicjgceaaQFnAtomsx0
import Derived.Test.YtboiagjicjgceaaQFnAtomsx1
import Derived.Test.YtboiagjicjgceaaQFnAtomsx2
namespace Go.Proofs.Ytboiagjicjgceaa.QFnAtoms
open Go.RowKit Go.Proofs.YtboiagjicjgceaaW.PrintWords Go.Proofs.YtboiagjicjgceaaW.PrintLast Go.Proofs.YtboiagjicjgceaaW.PrintMore
attribute [local go_sem] max2_int min2_int max_two min_two max_three min_three max_four min_four   -- for this text's walks alone
set_option linter.unusedVariables false
set_option linter.unusedSimpArgs false

/-! ### stringslite_IndexByte: function 31: the shelf's contract -/
open Go.Shelf
def sh_lays217_ren : Go.Shelf.Ren := ⟨fun | 217 => 31 | 266 => 35 | n => n,fun | 9 => 9 | 5 => 5 | 3 => 3 | n => n,fun | n => n⟩
theorem sh_lays217 : Go.Proofs.Lays.n217 Try.prog sh_lays217_ren := {
  mixed := by kernel_rfl
  f217 := Try.func31.trans (congrArg some (by kernel_rfl))
  f266 := Try.func35.trans (congrArg some (by kernel_rfl))
  t3 := Try.underlying3
  a3 := Try.isAgg3
  z3 := Try.sizeOf3
  v3 := Try.zeroValue3
  t5 := Try.underlying5
  a5 := Try.isAgg5
  z5 := Try.sizeOf5
  v5 := Try.zeroValue5
  t9 := Try.underlying9
  a9 := Try.isAgg9
  z9 := Try.sizeOf9
  v9 := Try.zeroValue9 }
def stringslite_IndexByte.f (a0 : ByteArray) (a1 : Int) : Option (Int) := some (Go.Lib.indexByte a0.data.toList a1.toNat.toUInt8)
theorem stringslite_IndexByte.calls (a0 : ByteArray) (a1 : Int) (r : Int) (w : World) (h : stringslite_IndexByte.f a0 a1 = some r) :
    Calls Try.prog 31 #[.string a0,.int .u8 a1] w fun e w' => e = .returned (.int .i64 r) ∧ Drawn0 w w' := by
  have q : Calls Try.prog 31 #[.string a0,.int .u8 a1] w fun e w' => e = .returned (.int .i64 (Go.Lib.indexByte a0.data.toList a1.toNat.toUInt8)) ∧ w' = w := Any.stringslite_IndexByte sh_lays217 a0 a1 w
  refine q.mono ?_
  rintro e w' ⟨he,rfl⟩
  unfold stringslite_IndexByte.f at h
  injection h with h
  subst h
  exact ⟨he,Drawn0.refl _⟩

/-! ### strings_IndexByte: function 26 -/
def strings_IndexByte.f (a0 : ByteArray) (a1 : Int) : Option (Int) := (stringslite_IndexByte.f a0 a1).bind fun t155 => (some t155)
set_option maxHeartbeats 8000000 in
set_option maxRecDepth 100000 in
theorem strings_IndexByte.calls (a0 : ByteArray) (a1 : Int) (r : Int) (w : World) (h : strings_IndexByte.f a0 a1 = some r) :
    Calls Try.prog 26 #[.string a0,.int .u8 a1] w fun e w' => e = .returned (.int .i64 r) ∧ Drawn0 w w' := by
  have H : ((stringslite_IndexByte.f a0 a1).bind fun t155 => (some t155)) = some r := h
  clear h
  replace H := Option.bind_eq_some_iff.mp H
  obtain ⟨t155,A30,H⟩ := H
  replace H : (some t155) = some r := H
  have A3 := Aside0.mk A30
  clear A30
  obtain rfl := Option.some.inj H
  go_enter Try.func26,Try.ntmps26
  go_wp2_with (first | ((with_reducible refine gate_callee (f := 31) rfl ?_);refine goesL_ (some 7) rfl rfl Try.func31 (by kernel_rfl) rfl #[.string a0,.int .u8 a1] rfl (by (try simp only [List.map_toArray,List.map_cons,List.map_nil]);first | done | rfl | (simp only [List.length_drop,List.length_take];rfl)) ?_;(with_reducible refine (stringslite_IndexByte.calls a0 a1 t155 _ A3.out).mono ?_);rintro e w' ⟨rfl,⟨nd,rfl⟩⟩;refine ⟨_,rfl,?_⟩))
  go_ret
  exact ⟨by first | rfl | (simp;done) | (simp [*];done),by repeat (first | exact Drawn0.refl _ | apply Drawn0.step)⟩

/-! ### impl_markOf: function 19 -/
def impl_markOf.l0 : Nat → ByteArray → Int → Option (ByteArray)
  | 0,_,_ => none
  | k + 1,x0,x6 => if x6 < 2 then (if x6 = 0 then ((strings_HasPrefix.f x0 (⟨#[45,62]⟩ : ByteArray)).bind fun t156 => (if t156 = true then (some (⟨#[45,62]⟩ : ByteArray)) else (impl_markOf.l0 k x0 (0 + 1)))) else (if x6 = 1 then ((strings_HasPrefix.f x0 (⟨#[61,61]⟩ : ByteArray)).bind fun t157 => (if t157 = true then (some (⟨#[61,61]⟩ : ByteArray)) else (impl_markOf.l0 k x0 (1 + 1)))) else (none))) else (if 0 < (x0.size : Int) then ((strings_IndexByte.f (⟨#[40,41,123,125,91,93,44,46,59,124,60,43,45,42]⟩ : ByteArray) (bt x0 0)).bind fun t158 => (if t158 ≥ 0 then (if 0 ≤ 1 then (if 1 ≤ (x0.size : Int) then (some (x0.extract 0 1)) else (none)) else (none)) else (some (⟨#[]⟩ : ByteArray)))) else (none))
def impl_markOf.f (k : Nat) (a0 : ByteArray) : Option (ByteArray) := impl_markOf.l0 k a0 0
theorem impl_markOf.mono_l : ∀ k,(∀ y0 y1,LeO (impl_markOf.l0 k y0 y1) (impl_markOf.l0 (k + 1) y0 y1))
  | 0 => fun _ _ r h => by simp [impl_markOf.l0] at h
  | k + 1 => by
    have ih0 := impl_markOf.mono_l k
    · intro y0 y1
      unfold impl_markOf.l0
      repeat' first
      | (with_reducible exact ih0 _ _)
      | (with_reducible exact LeO.refl _)
      | (with_reducible exact LeO.none _)
      | (with_reducible refine LeO.ite ?_ ?_)
      | (with_reducible refine LeO.bind ?_ (fun _ => ?_))
      | exact ih0 _ _
      | exact LeO.none _
      | refine LeO.ite ?_ ?_
      | refine LeO.bind ?_ (fun _ => ?_)
theorem impl_markOf.mono : ∀ a0 k,LeO (impl_markOf.f k a0) (impl_markOf.f (k + 1) a0) := by
  intro a0 k
  have ih0 := impl_markOf.mono_l k
  unfold impl_markOf.f
  repeat' first
      | (with_reducible exact ih0 _ _)
      | (with_reducible exact LeO.refl _)
      | (with_reducible exact LeO.none _)
      | (with_reducible refine LeO.ite ?_ ?_)
      | (with_reducible refine LeO.bind ?_ (fun _ => ?_))
      | exact ih0 _ _
      | exact LeO.none _
      | refine LeO.ite ?_ ?_
      | refine LeO.bind ?_ (fun _ => ?_)
set_option maxHeartbeats 8000000 in
set_option maxRecDepth 100000 in
theorem impl_markOf.calls (k : Nat) (a0 : ByteArray) (r : ByteArray) (w : World) (h : impl_markOf.f k a0 = some r) :
    Calls Try.prog 19 #[.string a0] w fun e w' => e = .returned (.string r) ∧ Drawn0 w w' := by
  have H : (impl_markOf.l0 k a0 0) = some r := h
  clear h
  have H' := Aside0.mk H
  clear H
  go_enter Try.func19,Try.ntmps19
  go_wp2
  go_loopg [6] k (fun kq v6 w' => ∃ (x6_1 : Int),v6 = .int .i64 x6_1 ∧ Aside0 (impl_markOf.l0 kq a0 x6_1 = some r) ∧ Aside0 (kq ≤ k) ∧ Drawn0 w w')
  case atStart => exact ⟨(0),(by first | rfl | (simp;done) | (simp [*];done)),H',⟨Nat.le_refl _⟩,by repeat (first | exact Drawn0.refl _ | apply Drawn0.step)⟩
  case round =>
    clear H'
    try clear c1
    obtain ⟨x6_1,rfl,HA,HK1,⟨m1,rfl⟩⟩ := hrel
    cases gk with
    | zero => exact absurd HA.out (by simp [impl_markOf.l0])
    | succ k1 =>
      have H := HA.out
      clear HA
      simp only [impl_markOf.l0] at H
      by_cases c2 : x6_1 < 2
      · rw [if_pos c2] at H
        have c2b0 : decide (x6_1 < 2) = true := decide_eq_true c2
        clear c2
        by_cases c3 : x6_1 = 0
        · rw [if_pos c3] at H
          subst c3
          have hia4 : ∀ w : World,(Instr.index 53 (.agg #[.string (⟨#[45,62]⟩ : ByteArray),.string (⟨#[61,61]⟩ : ByteArray)]) (.int .i64 0)).run Try.prog w = .ok (.string (⟨#[45,62]⟩ : ByteArray)) w := fun w => by simp [Instr.index,part,run_underlying Try.underlying53,asIntOf,Try.sizeOf9,Try.isAgg9,go_sem]
          replace H := Option.bind_eq_some_iff.mp H
          obtain ⟨t156,A50,H⟩ := H
          replace H : (if t156 = true then (some (⟨#[45,62]⟩ : ByteArray)) else (impl_markOf.l0 k1 a0 (0 + 1))) = some r := H
          have A5 := Aside0.mk A50
          clear A50
          by_cases c6 : t156 = true
          · subst c6
            have H1 : (some (⟨#[45,62]⟩ : ByteArray)) = some r := by rw [if_pos rfl] at H;exact H
            clear H
            have H := H1
            clear H1
            obtain rfl := Option.some.inj H
            go_wp2_with (first | ((with_reducible refine gate_callee (f := 25) rfl ?_);refine goesL_ (some 11) rfl rfl Try.func25 (by kernel_rfl) rfl #[.string a0,.string (⟨#[45,62]⟩ : ByteArray)] rfl (by (try simp only [List.map_toArray,List.map_cons,List.map_nil]);first | done | rfl | (simp only [List.length_drop,List.length_take];rfl)) ?_;(with_reducible refine (strings_HasPrefix.calls a0 (⟨#[45,62]⟩ : ByteArray) true _ A5.out).mono ?_);rintro e w' ⟨rfl,⟨nd,rfl⟩⟩;refine ⟨_,rfl,?_⟩))
            go_ret
            exact ⟨by first | rfl | (simp;done) | (simp [*];done),by repeat (first | exact Drawn0.refl _ | apply Drawn0.step)⟩
          · replace c6 := Bool.eq_false_iff.mpr c6
            subst c6
            have H1 : (impl_markOf.l0 k1 a0 (0 + 1)) = some r := by rw [if_neg (show ¬ (false = true) by decide)] at H;exact H
            clear H
            have H := H1
            clear H1
            have H' := Aside0.mk H
            clear H
            go_wp2_with (first | ((with_reducible refine gate_callee (f := 25) rfl ?_);refine goesL_ (some 11) rfl rfl Try.func25 (by kernel_rfl) rfl #[.string a0,.string (⟨#[45,62]⟩ : ByteArray)] rfl (by (try simp only [List.map_toArray,List.map_cons,List.map_nil]);first | done | rfl | (simp only [List.length_drop,List.length_take];rfl)) ?_;(with_reducible refine (strings_HasPrefix.calls a0 (⟨#[45,62]⟩ : ByteArray) false _ A5.out).mono ?_);rintro e w' ⟨rfl,⟨nd,rfl⟩⟩;refine ⟨_,rfl,?_⟩))
            go_roundg k1
            case measure => have := HK1.out;omega
            case rel => exact ⟨(0 + 1),(by first | rfl | (simp;done) | (simp [*];done)),H',⟨by have := HK1.out;omega⟩,by repeat (first | exact Drawn0.refl _ | apply Drawn0.step)⟩
        · rw [if_neg c3] at H
          by_cases c7 : x6_1 = 1
          · rw [if_pos c7] at H
            subst c7
            have hia8 : ∀ w : World,(Instr.index 53 (.agg #[.string (⟨#[45,62]⟩ : ByteArray),.string (⟨#[61,61]⟩ : ByteArray)]) (.int .i64 1)).run Try.prog w = .ok (.string (⟨#[61,61]⟩ : ByteArray)) w := fun w => by simp [Instr.index,part,run_underlying Try.underlying53,asIntOf,Try.sizeOf9,Try.isAgg9,go_sem]
            replace H := Option.bind_eq_some_iff.mp H
            obtain ⟨t157,A90,H⟩ := H
            replace H : (if t157 = true then (some (⟨#[61,61]⟩ : ByteArray)) else (impl_markOf.l0 k1 a0 (1 + 1))) = some r := H
            have A9 := Aside0.mk A90
            clear A90
            by_cases c10 : t157 = true
            · subst c10
              have H1 : (some (⟨#[61,61]⟩ : ByteArray)) = some r := by rw [if_pos rfl] at H;exact H
              clear H
              have H := H1
              clear H1
              obtain rfl := Option.some.inj H
              go_wp2_with (first | ((with_reducible refine gate_callee (f := 25) rfl ?_);refine goesL_ (some 11) rfl rfl Try.func25 (by kernel_rfl) rfl #[.string a0,.string (⟨#[61,61]⟩ : ByteArray)] rfl (by (try simp only [List.map_toArray,List.map_cons,List.map_nil]);first | done | rfl | (simp only [List.length_drop,List.length_take];rfl)) ?_;(with_reducible refine (strings_HasPrefix.calls a0 (⟨#[61,61]⟩ : ByteArray) true _ A9.out).mono ?_);rintro e w' ⟨rfl,⟨nd,rfl⟩⟩;refine ⟨_,rfl,?_⟩))
              go_ret
              exact ⟨by first | rfl | (simp;done) | (simp [*];done),by repeat (first | exact Drawn0.refl _ | apply Drawn0.step)⟩
            · replace c10 := Bool.eq_false_iff.mpr c10
              subst c10
              have H1 : (impl_markOf.l0 k1 a0 (1 + 1)) = some r := by rw [if_neg (show ¬ (false = true) by decide)] at H;exact H
              clear H
              have H := H1
              clear H1
              have H' := Aside0.mk H
              clear H
              go_wp2_with (first | ((with_reducible refine gate_callee (f := 25) rfl ?_);refine goesL_ (some 11) rfl rfl Try.func25 (by kernel_rfl) rfl #[.string a0,.string (⟨#[61,61]⟩ : ByteArray)] rfl (by (try simp only [List.map_toArray,List.map_cons,List.map_nil]);first | done | rfl | (simp only [List.length_drop,List.length_take];rfl)) ?_;(with_reducible refine (strings_HasPrefix.calls a0 (⟨#[61,61]⟩ : ByteArray) false _ A9.out).mono ?_);rintro e w' ⟨rfl,⟨nd,rfl⟩⟩;refine ⟨_,rfl,?_⟩))
              go_roundg k1
              case measure => have := HK1.out;omega
              case rel => exact ⟨(1 + 1),(by first | rfl | (simp;done) | (simp [*];done)),H',⟨by have := HK1.out;omega⟩,by repeat (first | exact Drawn0.refl _ | apply Drawn0.step)⟩
          · rw [if_neg c7] at H
            exact absurd H (by simp)
      · rw [if_neg c2] at H
        have c2b0 : decide (x6_1 < 2) = false := decide_eq_false c2
        clear c2
        by_cases c11 : 0 < (a0.size : Int)
        · rw [if_pos c11] at H
          have c11b0 : decide (0 < (a0.size : Int)) = true := decide_eq_true c11
          have c11b1 : decide (0 < a0.size) = true := decide_eq_true (by omega)
          clear c11
          replace H := Option.bind_eq_some_iff.mp H
          obtain ⟨t158,A130,H⟩ := H
          replace H : (if t158 ≥ 0 then (if 0 ≤ 1 then (if 1 ≤ (a0.size : Int) then (some (a0.extract 0 1)) else (none)) else (none)) else (some (⟨#[]⟩ : ByteArray))) = some r := H
          have A13 := Aside0.mk A130
          clear A130
          by_cases c14 : t158 ≥ 0
          · rw [if_pos c14] at H
            have c14b0 : decide (0 ≤ t158) = true := decide_eq_true c14
            clear c14
            by_cases c15 : 0 ≤ 1
            · rw [if_pos c15] at H
              have c15b0 := eq_true c15
              have c15b1 : decide (0 ≤ 1) = true := decide_eq_true c15
              clear c15
              by_cases c16 : 1 ≤ (a0.size : Int)
              · rw [if_pos c16] at H
                have c16b0 := eq_true c16
                have c16b1 : decide (1 ≤ (a0.size : Int)) = true := decide_eq_true c16
                clear c16
                obtain rfl := Option.some.inj H
                have p12 : 0 ≤ (0 : Int) := (by omega)
                have q12 : 0 < a0.size := (by have : (0 : Int) < (a0.size : Int) := of_decide_eq_true (by first | (with_reducible assumption) | assumption);omega)
                have hx12 : ∀ h : 0 < a0.size,((a0[0]'h).toNat : Int) = bt a0 0 := bt_at a0 0
                clear p12
                have qi12 : (0 < (a0.size : Int)) = True := eq_true (of_decide_eq_true (by first | (with_reducible assumption) | assumption))
                replace q12 := eq_true q12
                go_wp2_with (first | ((with_reducible refine gate_callee (f := 26) rfl ?_);refine goesL_ (some 16) rfl rfl Try.func26 (by kernel_rfl) rfl #[.string (⟨#[40,41,123,125,91,93,44,46,59,124,60,43,45,42]⟩ : ByteArray),.int .u8 (bt a0 0)] rfl (by (try simp only [List.map_toArray,List.map_cons,List.map_nil]);first | done | rfl | (simp only [List.length_drop,List.length_take];rfl)) ?_;(with_reducible refine (strings_IndexByte.calls (⟨#[40,41,123,125,91,93,44,46,59,124,60,43,45,42]⟩ : ByteArray) (bt a0 0) t158 _ A13.out).mono ?_);rintro e w' ⟨rfl,⟨nd,rfl⟩⟩;refine ⟨_,rfl,?_⟩))
                go_ret
                exact ⟨by first | rfl | (simp;done) | (simp [*];done),by repeat (first | exact Drawn0.refl _ | apply Drawn0.step)⟩
              · rw [if_neg c16] at H
                exact absurd H (by simp)
            · rw [if_neg c15] at H
              exact absurd H (by simp)
          · rw [if_neg c14] at H
            have c14b0 : decide (0 ≤ t158) = false := decide_eq_false c14
            clear c14
            obtain rfl := Option.some.inj H
            have p12 : 0 ≤ (0 : Int) := (by omega)
            have q12 : 0 < a0.size := (by have : (0 : Int) < (a0.size : Int) := of_decide_eq_true (by first | (with_reducible assumption) | assumption);omega)
            have hx12 : ∀ h : 0 < a0.size,((a0[0]'h).toNat : Int) = bt a0 0 := bt_at a0 0
            clear p12
            have qi12 : (0 < (a0.size : Int)) = True := eq_true (of_decide_eq_true (by first | (with_reducible assumption) | assumption))
            replace q12 := eq_true q12
            go_wp2_with (first | ((with_reducible refine gate_callee (f := 26) rfl ?_);refine goesL_ (some 16) rfl rfl Try.func26 (by kernel_rfl) rfl #[.string (⟨#[40,41,123,125,91,93,44,46,59,124,60,43,45,42]⟩ : ByteArray),.int .u8 (bt a0 0)] rfl (by (try simp only [List.map_toArray,List.map_cons,List.map_nil]);first | done | rfl | (simp only [List.length_drop,List.length_take];rfl)) ?_;(with_reducible refine (strings_IndexByte.calls (⟨#[40,41,123,125,91,93,44,46,59,124,60,43,45,42]⟩ : ByteArray) (bt a0 0) t158 _ A13.out).mono ?_);rintro e w' ⟨rfl,⟨nd,rfl⟩⟩;refine ⟨_,rfl,?_⟩))
            go_ret
            exact ⟨by first | rfl | (simp;done) | (simp [*];done),by repeat (first | exact Drawn0.refl _ | apply Drawn0.step)⟩
        · rw [if_neg c11] at H
          exact absurd H (by simp)

/-! ### impl_TokenOk: function 9 -/
def impl_TokenOk.f (k : Nat) (a0_0 : Int) (a0_1 : Int) (a0_2 : ByteArray) : Option (Bool) := if a0_0 = 1 then ((impl_inRange.f a0_1 0 1000000000000).bind fun t160 => (if t160 = true then (some (a0_2.toList == ([] : List UInt8))) else (some false))) else (if a0_0 = 2 then (if a0_1 = 0 then ((impl_AtomOk.f k a0_2).bind fun t161 => (some t161)) else (some false)) else (if a0_0 = 3 then (if a0_1 = 0 then ((impl_varOk.f k a0_2).bind fun t162 => (some t162)) else (some false)) else (if a0_0 = 4 then (if a0_1 = 0 then (if a0_2.toList = ([] : List UInt8) then (some false) else ((impl_markOf.f k a0_2).bind fun t163 => (some (t163.toList == a0_2.toList)))) else (some false)) else (some false))))
theorem impl_TokenOk.mono : ∀ a0 a1 a2 k,LeO (impl_TokenOk.f k a0 a1 a2) (impl_TokenOk.f (k + 1) a0 a1 a2) := by
  intro a0 a1 a2 k
  unfold impl_TokenOk.f
  repeat' first
      | (with_reducible exact impl_AtomOk.mono _ _)
      | (with_reducible exact impl_markOf.mono _ _)
      | (with_reducible exact impl_varOk.mono _ _)
      | (with_reducible exact LeO.refl _)
      | (with_reducible exact LeO.none _)
      | (with_reducible refine LeO.ite ?_ ?_)
      | (with_reducible refine LeO.bind ?_ (fun _ => ?_))
      | exact impl_AtomOk.mono _ _
      | exact impl_markOf.mono _ _
      | exact impl_varOk.mono _ _
      | exact LeO.none _
      | refine LeO.ite ?_ ?_
      | refine LeO.bind ?_ (fun _ => ?_)
set_option maxHeartbeats 8000000 in
set_option maxRecDepth 100000 in
theorem impl_TokenOk.calls (k : Nat) (a0_0 : Int) (a0_1 : Int) (a0_2 : ByteArray) (r : Bool) (w : World) (h : impl_TokenOk.f k a0_0 a0_1 a0_2 = some r) :
    Calls Try.prog 9 #[.agg #[.int .i64 a0_0,.int .i64 a0_1,.string a0_2]] w fun e w' => e = .returned (.bool r) ∧ Below w.heap.size w w' := by
  have hu32 := Try.underlying32
  have HB := Aside0.mk (Below.refl w.heap.size w)
  have H : (if a0_0 = 1 then ((impl_inRange.f a0_1 0 1000000000000).bind fun t160 => (if t160 = true then (some (a0_2.toList == ([] : List UInt8))) else (some false))) else (if a0_0 = 2 then (if a0_1 = 0 then ((impl_AtomOk.f k a0_2).bind fun t161 => (some t161)) else (some false)) else (if a0_0 = 3 then (if a0_1 = 0 then ((impl_varOk.f k a0_2).bind fun t162 => (some t162)) else (some false)) else (if a0_0 = 4 then (if a0_1 = 0 then (if a0_2.toList = ([] : List UInt8) then (some false) else ((impl_markOf.f k a0_2).bind fun t163 => (some (t163.toList == a0_2.toList)))) else (some false)) else (some false))))) = some r := h
  clear h
  by_cases c2 : a0_0 = 1
  · rw [if_pos c2] at H
    have c2b0 : (a0_0 == 1) = true := beq_iff_eq.mpr c2
    have c2b1 : (a0_0 != 1) = false := bne_eq_false_iff_eq.mpr c2
    clear c2
    replace H := Option.bind_eq_some_iff.mp H
    obtain ⟨t160,A30,H⟩ := H
    replace H : (if t160 = true then (some (a0_2.toList == ([] : List UInt8))) else (some false)) = some r := H
    have A3 := Aside0.mk A30
    clear A30
    by_cases c4 : t160 = true
    · subst c4
      have H1 : (some (a0_2.toList == ([] : List UInt8))) = some r := by rw [if_pos rfl] at H;exact H
      clear H
      have H := H1
      clear H1
      obtain rfl := Option.some.inj H
      go_enter Try.func9,Try.ntmps9
      go_wp2_with (first | ((with_reducible refine gate_dst (N := 1) rfl ?_);refine box_event ?hg (N := 1) ?hd (cs := #[.int .i64 a0_0,.int .i64 a0_1,.string a0_2]) (t := 32) ?hr ?_;(case hd => rfl);(case hg => rfl);(case hr => first | (go_simp;done) | (go_simp;rfl));intro gb159 hg w5 hbox hb;have n0_ := Aside0.mk (below_step (by repeat (first | (with_reducible first | exact HB.out | apply below_alloc | apply pw_below_drewN | apply below_drew1) | exact HB.out)) hb);have n1_ := Aside0.mk (hbox);have n2_ := Aside0.mk ((by rw [hg];exact (below_size (by repeat (first | (with_reducible first | exact HB.out | apply below_alloc | apply pw_below_drewN | apply below_drew1) | exact HB.out))) : w.heap.size ≤ gb159));have n3_ := Aside0.mk ((by rw [hg];exact (below_size (by repeat (first | (with_reducible first | exact HB.out | apply below_alloc | apply pw_below_drewN | apply below_drew1) | exact HB.out))) : w.heap.size ≤ gb159));clear HB;have HB := n0_;have BK159 := n1_;have GW159 := n2_;have GE159 := n3_;clear n0_ n1_ n2_ n3_;clear hb hbox hg;have hcz6_0 : w5.cell? ⟨gb159,0,none⟩ = some (.int .i64 a0_0) := (blk_cell BK159.out 0).trans rfl;have hcz6_1 : w5.cell? ⟨gb159,1,none⟩ = some (.int .i64 a0_1) := (blk_cell BK159.out 1).trans rfl;have hcz6_2 : w5.cell? ⟨gb159,2,none⟩ = some (.string a0_2) := (blk_cell BK159.out 2).trans rfl;have hfz6_0 := blk_frozen BK159.out 0;have hfz6_1 := blk_frozen BK159.out 1;have hfz6_2 := blk_frozen BK159.out 2) | (go_at_call 15;(with_reducible refine (impl_inRange.calls a0_1 0 1000000000000 true _ A3.out).mono ?_);rintro e w' ⟨rfl,⟨nd,rfl⟩⟩;(try first | exact ⟨rfl,_,World.drewN_drewN _ _ _⟩ | exact ⟨rfl,_,Eq.trans (World.drewN_drewN _ _ _) (congrArg (World.drewN _) (Nat.add_assoc _ _ _))⟩)))
      repeat (go_quiet (first | ((with_reducible refine gate_dst (N := 1) rfl ?_);refine box_event ?hg (N := 1) ?hd (cs := #[.int .i64 a0_0,.int .i64 a0_1,.string a0_2]) (t := 32) ?hr ?_;(case hd => rfl);(case hg => rfl);(case hr => first | (go_simp;done) | (go_simp;rfl));intro gb159 hg w5 hbox hb;have n0_ := Aside0.mk (below_step (by repeat (first | (with_reducible first | exact HB.out | apply below_alloc | apply pw_below_drewN | apply below_drew1) | exact HB.out)) hb);have n1_ := Aside0.mk (hbox);have n2_ := Aside0.mk ((by rw [hg];exact (below_size (by repeat (first | (with_reducible first | exact HB.out | apply below_alloc | apply pw_below_drewN | apply below_drew1) | exact HB.out))) : w.heap.size ≤ gb159));have n3_ := Aside0.mk ((by rw [hg];exact (below_size (by repeat (first | (with_reducible first | exact HB.out | apply below_alloc | apply pw_below_drewN | apply below_drew1) | exact HB.out))) : w.heap.size ≤ gb159));clear HB;have HB := n0_;have BK159 := n1_;have GW159 := n2_;have GE159 := n3_;clear n0_ n1_ n2_ n3_;clear hb hbox hg;have hcz6_0 : w5.cell? ⟨gb159,0,none⟩ = some (.int .i64 a0_0) := (blk_cell BK159.out 0).trans rfl;have hcz6_1 : w5.cell? ⟨gb159,1,none⟩ = some (.int .i64 a0_1) := (blk_cell BK159.out 1).trans rfl;have hcz6_2 : w5.cell? ⟨gb159,2,none⟩ = some (.string a0_2) := (blk_cell BK159.out 2).trans rfl;have hfz6_0 := blk_frozen BK159.out 0;have hfz6_1 := blk_frozen BK159.out 1;have hfz6_2 := blk_frozen BK159.out 2) | (go_at_call 15;(with_reducible refine (impl_inRange.calls a0_1 0 1000000000000 true _ A3.out).mono ?_);rintro e w' ⟨rfl,⟨nd,rfl⟩⟩;(try first | exact ⟨rfl,_,World.drewN_drewN _ _ _⟩ | exact ⟨rfl,_,Eq.trans (World.drewN_drewN _ _ _) (congrArg (World.drewN _) (Nat.add_assoc _ _ _))⟩)));try go_wp2_with (first | ((with_reducible refine gate_dst (N := 1) rfl ?_);refine box_event ?hg (N := 1) ?hd (cs := #[.int .i64 a0_0,.int .i64 a0_1,.string a0_2]) (t := 32) ?hr ?_;(case hd => rfl);(case hg => rfl);(case hr => first | (go_simp;done) | (go_simp;rfl));intro gb159 hg w5 hbox hb;have n0_ := Aside0.mk (below_step (by repeat (first | (with_reducible first | exact HB.out | apply below_alloc | apply pw_below_drewN | apply below_drew1) | exact HB.out)) hb);have n1_ := Aside0.mk (hbox);have n2_ := Aside0.mk ((by rw [hg];exact (below_size (by repeat (first | (with_reducible first | exact HB.out | apply below_alloc | apply pw_below_drewN | apply below_drew1) | exact HB.out))) : w.heap.size ≤ gb159));have n3_ := Aside0.mk ((by rw [hg];exact (below_size (by repeat (first | (with_reducible first | exact HB.out | apply below_alloc | apply pw_below_drewN | apply below_drew1) | exact HB.out))) : w.heap.size ≤ gb159));clear HB;have HB := n0_;have BK159 := n1_;have GW159 := n2_;have GE159 := n3_;clear n0_ n1_ n2_ n3_;clear hb hbox hg;have hcz6_0 : w5.cell? ⟨gb159,0,none⟩ = some (.int .i64 a0_0) := (blk_cell BK159.out 0).trans rfl;have hcz6_1 : w5.cell? ⟨gb159,1,none⟩ = some (.int .i64 a0_1) := (blk_cell BK159.out 1).trans rfl;have hcz6_2 : w5.cell? ⟨gb159,2,none⟩ = some (.string a0_2) := (blk_cell BK159.out 2).trans rfl;have hfz6_0 := blk_frozen BK159.out 0;have hfz6_1 := blk_frozen BK159.out 1;have hfz6_2 := blk_frozen BK159.out 2) | (go_at_call 15;(with_reducible refine (impl_inRange.calls a0_1 0 1000000000000 true _ A3.out).mono ?_);rintro e w' ⟨rfl,⟨nd,rfl⟩⟩;(try first | exact ⟨rfl,_,World.drewN_drewN _ _ _⟩ | exact ⟨rfl,_,Eq.trans (World.drewN_drewN _ _ _) (congrArg (World.drewN _) (Nat.add_assoc _ _ _))⟩))))
      go_ret
      exact ⟨by first | rfl | (simp [errW_none,errW_some] <;> rfl) | (simp [*,errW_none,errW_some] <;> rfl) | (rw [isEmpty_ne];first | done | rfl) | (rw [isEmpty_be];first | done | rfl),by repeat (first | (with_reducible first | exact HB.out | apply below_alloc | apply pw_below_drewN | apply below_drew1 | refine below_set ?_ GE159.out) | exact HB.out)⟩
    · replace c4 := Bool.eq_false_iff.mpr c4
      subst c4
      have H1 : (some false) = some r := by rw [if_neg (show ¬ (false = true) by decide)] at H;exact H
      clear H
      have H := H1
      clear H1
      obtain rfl := Option.some.inj H
      go_enter Try.func9,Try.ntmps9
      go_wp2_with (first | ((with_reducible refine gate_dst (N := 1) rfl ?_);refine box_event ?hg (N := 1) ?hd (cs := #[.int .i64 a0_0,.int .i64 a0_1,.string a0_2]) (t := 32) ?hr ?_;(case hd => rfl);(case hg => rfl);(case hr => first | (go_simp;done) | (go_simp;rfl));intro gb159 hg w7 hbox hb;have n0_ := Aside0.mk (below_step (by repeat (first | (with_reducible first | exact HB.out | apply below_alloc | apply pw_below_drewN | apply below_drew1) | exact HB.out)) hb);have n1_ := Aside0.mk (hbox);have n2_ := Aside0.mk ((by rw [hg];exact (below_size (by repeat (first | (with_reducible first | exact HB.out | apply below_alloc | apply pw_below_drewN | apply below_drew1) | exact HB.out))) : w.heap.size ≤ gb159));have n3_ := Aside0.mk ((by rw [hg];exact (below_size (by repeat (first | (with_reducible first | exact HB.out | apply below_alloc | apply pw_below_drewN | apply below_drew1) | exact HB.out))) : w.heap.size ≤ gb159));clear HB;have HB := n0_;have BK159 := n1_;have GW159 := n2_;have GE159 := n3_;clear n0_ n1_ n2_ n3_;clear hb hbox hg;have hcz8_0 : w7.cell? ⟨gb159,0,none⟩ = some (.int .i64 a0_0) := (blk_cell BK159.out 0).trans rfl;have hcz8_1 : w7.cell? ⟨gb159,1,none⟩ = some (.int .i64 a0_1) := (blk_cell BK159.out 1).trans rfl;have hcz8_2 : w7.cell? ⟨gb159,2,none⟩ = some (.string a0_2) := (blk_cell BK159.out 2).trans rfl;have hfz8_0 := blk_frozen BK159.out 0;have hfz8_1 := blk_frozen BK159.out 1;have hfz8_2 := blk_frozen BK159.out 2) | (go_at_call 15;(with_reducible refine (impl_inRange.calls a0_1 0 1000000000000 false _ A3.out).mono ?_);rintro e w' ⟨rfl,⟨nd,rfl⟩⟩;(try first | exact ⟨rfl,_,World.drewN_drewN _ _ _⟩ | exact ⟨rfl,_,Eq.trans (World.drewN_drewN _ _ _) (congrArg (World.drewN _) (Nat.add_assoc _ _ _))⟩)))
      repeat (go_quiet (first | ((with_reducible refine gate_dst (N := 1) rfl ?_);refine box_event ?hg (N := 1) ?hd (cs := #[.int .i64 a0_0,.int .i64 a0_1,.string a0_2]) (t := 32) ?hr ?_;(case hd => rfl);(case hg => rfl);(case hr => first | (go_simp;done) | (go_simp;rfl));intro gb159 hg w7 hbox hb;have n0_ := Aside0.mk (below_step (by repeat (first | (with_reducible first | exact HB.out | apply below_alloc | apply pw_below_drewN | apply below_drew1) | exact HB.out)) hb);have n1_ := Aside0.mk (hbox);have n2_ := Aside0.mk ((by rw [hg];exact (below_size (by repeat (first | (with_reducible first | exact HB.out | apply below_alloc | apply pw_below_drewN | apply below_drew1) | exact HB.out))) : w.heap.size ≤ gb159));have n3_ := Aside0.mk ((by rw [hg];exact (below_size (by repeat (first | (with_reducible first | exact HB.out | apply below_alloc | apply pw_below_drewN | apply below_drew1) | exact HB.out))) : w.heap.size ≤ gb159));clear HB;have HB := n0_;have BK159 := n1_;have GW159 := n2_;have GE159 := n3_;clear n0_ n1_ n2_ n3_;clear hb hbox hg;have hcz8_0 : w7.cell? ⟨gb159,0,none⟩ = some (.int .i64 a0_0) := (blk_cell BK159.out 0).trans rfl;have hcz8_1 : w7.cell? ⟨gb159,1,none⟩ = some (.int .i64 a0_1) := (blk_cell BK159.out 1).trans rfl;have hcz8_2 : w7.cell? ⟨gb159,2,none⟩ = some (.string a0_2) := (blk_cell BK159.out 2).trans rfl;have hfz8_0 := blk_frozen BK159.out 0;have hfz8_1 := blk_frozen BK159.out 1;have hfz8_2 := blk_frozen BK159.out 2) | (go_at_call 15;(with_reducible refine (impl_inRange.calls a0_1 0 1000000000000 false _ A3.out).mono ?_);rintro e w' ⟨rfl,⟨nd,rfl⟩⟩;(try first | exact ⟨rfl,_,World.drewN_drewN _ _ _⟩ | exact ⟨rfl,_,Eq.trans (World.drewN_drewN _ _ _) (congrArg (World.drewN _) (Nat.add_assoc _ _ _))⟩)));try go_wp2_with (first | ((with_reducible refine gate_dst (N := 1) rfl ?_);refine box_event ?hg (N := 1) ?hd (cs := #[.int .i64 a0_0,.int .i64 a0_1,.string a0_2]) (t := 32) ?hr ?_;(case hd => rfl);(case hg => rfl);(case hr => first | (go_simp;done) | (go_simp;rfl));intro gb159 hg w7 hbox hb;have n0_ := Aside0.mk (below_step (by repeat (first | (with_reducible first | exact HB.out | apply below_alloc | apply pw_below_drewN | apply below_drew1) | exact HB.out)) hb);have n1_ := Aside0.mk (hbox);have n2_ := Aside0.mk ((by rw [hg];exact (below_size (by repeat (first | (with_reducible first | exact HB.out | apply below_alloc | apply pw_below_drewN | apply below_drew1) | exact HB.out))) : w.heap.size ≤ gb159));have n3_ := Aside0.mk ((by rw [hg];exact (below_size (by repeat (first | (with_reducible first | exact HB.out | apply below_alloc | apply pw_below_drewN | apply below_drew1) | exact HB.out))) : w.heap.size ≤ gb159));clear HB;have HB := n0_;have BK159 := n1_;have GW159 := n2_;have GE159 := n3_;clear n0_ n1_ n2_ n3_;clear hb hbox hg;have hcz8_0 : w7.cell? ⟨gb159,0,none⟩ = some (.int .i64 a0_0) := (blk_cell BK159.out 0).trans rfl;have hcz8_1 : w7.cell? ⟨gb159,1,none⟩ = some (.int .i64 a0_1) := (blk_cell BK159.out 1).trans rfl;have hcz8_2 : w7.cell? ⟨gb159,2,none⟩ = some (.string a0_2) := (blk_cell BK159.out 2).trans rfl;have hfz8_0 := blk_frozen BK159.out 0;have hfz8_1 := blk_frozen BK159.out 1;have hfz8_2 := blk_frozen BK159.out 2) | (go_at_call 15;(with_reducible refine (impl_inRange.calls a0_1 0 1000000000000 false _ A3.out).mono ?_);rintro e w' ⟨rfl,⟨nd,rfl⟩⟩;(try first | exact ⟨rfl,_,World.drewN_drewN _ _ _⟩ | exact ⟨rfl,_,Eq.trans (World.drewN_drewN _ _ _) (congrArg (World.drewN _) (Nat.add_assoc _ _ _))⟩))))
      go_ret
      exact ⟨by first | rfl | (simp [errW_none,errW_some] <;> rfl) | (simp [*,errW_none,errW_some] <;> rfl) | (rw [isEmpty_ne];first | done | rfl) | (rw [isEmpty_be];first | done | rfl),by repeat (first | (with_reducible first | exact HB.out | apply below_alloc | apply pw_below_drewN | apply below_drew1 | refine below_set ?_ GE159.out) | exact HB.out)⟩
  · rw [if_neg c2] at H
    have c2b0 : (a0_0 == 1) = false := beq_eq_false_iff_ne.mpr c2
    have c2b1 : (a0_0 != 1) = true := bne_iff_ne.mpr c2
    by_cases c9 : a0_0 = 2
    · rw [if_pos c9] at H
      have c9b0 : (a0_0 == 2) = true := beq_iff_eq.mpr c9
      have c9b1 : (a0_0 != 2) = false := bne_eq_false_iff_eq.mpr c9
      clear c9
      by_cases c10 : a0_1 = 0
      · rw [if_pos c10] at H
        have c10b0 : (a0_1 == 0) = true := beq_iff_eq.mpr c10
        have c10b1 : (a0_1 != 0) = false := bne_eq_false_iff_eq.mpr c10
        clear c10
        replace H := Option.bind_eq_some_iff.mp H
        obtain ⟨t161,A110,H⟩ := H
        replace H : (some t161) = some r := H
        have A11 := Aside0.mk A110
        clear A110
        obtain rfl := Option.some.inj H
        go_enter Try.func9,Try.ntmps9
        go_wp2_with (first | ((with_reducible refine gate_dst (N := 1) rfl ?_);refine box_event ?hg (N := 1) ?hd (cs := #[.int .i64 a0_0,.int .i64 a0_1,.string a0_2]) (t := 32) ?hr ?_;(case hd => rfl);(case hg => rfl);(case hr => first | (go_simp;done) | (go_simp;rfl));intro gb159 hg w12 hbox hb;have n0_ := Aside0.mk (below_step (by repeat (first | (with_reducible first | exact HB.out | apply below_alloc | apply pw_below_drewN | apply below_drew1) | exact HB.out)) hb);have n1_ := Aside0.mk (hbox);have n2_ := Aside0.mk ((by rw [hg];exact (below_size (by repeat (first | (with_reducible first | exact HB.out | apply below_alloc | apply pw_below_drewN | apply below_drew1) | exact HB.out))) : w.heap.size ≤ gb159));have n3_ := Aside0.mk ((by rw [hg];exact (below_size (by repeat (first | (with_reducible first | exact HB.out | apply below_alloc | apply pw_below_drewN | apply below_drew1) | exact HB.out))) : w.heap.size ≤ gb159));clear HB;have HB := n0_;have BK159 := n1_;have GW159 := n2_;have GE159 := n3_;clear n0_ n1_ n2_ n3_;clear hb hbox hg;have hcz13_0 : w12.cell? ⟨gb159,0,none⟩ = some (.int .i64 a0_0) := (blk_cell BK159.out 0).trans rfl;have hcz13_1 : w12.cell? ⟨gb159,1,none⟩ = some (.int .i64 a0_1) := (blk_cell BK159.out 1).trans rfl;have hcz13_2 : w12.cell? ⟨gb159,2,none⟩ = some (.string a0_2) := (blk_cell BK159.out 2).trans rfl;have hfz13_0 := blk_frozen BK159.out 0;have hfz13_1 := blk_frozen BK159.out 1;have hfz13_2 := blk_frozen BK159.out 2) | (go_at_call 6;(with_reducible refine (impl_AtomOk.calls k a0_2 t161 _ A11.out).mono ?_);rintro e w' ⟨rfl,⟨nd,rfl⟩⟩;(try first | exact ⟨rfl,_,World.drewN_drewN _ _ _⟩ | exact ⟨rfl,_,Eq.trans (World.drewN_drewN _ _ _) (congrArg (World.drewN _) (Nat.add_assoc _ _ _))⟩)))
        repeat (go_quiet (first | ((with_reducible refine gate_dst (N := 1) rfl ?_);refine box_event ?hg (N := 1) ?hd (cs := #[.int .i64 a0_0,.int .i64 a0_1,.string a0_2]) (t := 32) ?hr ?_;(case hd => rfl);(case hg => rfl);(case hr => first | (go_simp;done) | (go_simp;rfl));intro gb159 hg w12 hbox hb;have n0_ := Aside0.mk (below_step (by repeat (first | (with_reducible first | exact HB.out | apply below_alloc | apply pw_below_drewN | apply below_drew1) | exact HB.out)) hb);have n1_ := Aside0.mk (hbox);have n2_ := Aside0.mk ((by rw [hg];exact (below_size (by repeat (first | (with_reducible first | exact HB.out | apply below_alloc | apply pw_below_drewN | apply below_drew1) | exact HB.out))) : w.heap.size ≤ gb159));have n3_ := Aside0.mk ((by rw [hg];exact (below_size (by repeat (first | (with_reducible first | exact HB.out | apply below_alloc | apply pw_below_drewN | apply below_drew1) | exact HB.out))) : w.heap.size ≤ gb159));clear HB;have HB := n0_;have BK159 := n1_;have GW159 := n2_;have GE159 := n3_;clear n0_ n1_ n2_ n3_;clear hb hbox hg;have hcz13_0 : w12.cell? ⟨gb159,0,none⟩ = some (.int .i64 a0_0) := (blk_cell BK159.out 0).trans rfl;have hcz13_1 : w12.cell? ⟨gb159,1,none⟩ = some (.int .i64 a0_1) := (blk_cell BK159.out 1).trans rfl;have hcz13_2 : w12.cell? ⟨gb159,2,none⟩ = some (.string a0_2) := (blk_cell BK159.out 2).trans rfl;have hfz13_0 := blk_frozen BK159.out 0;have hfz13_1 := blk_frozen BK159.out 1;have hfz13_2 := blk_frozen BK159.out 2) | (go_at_call 6;(with_reducible refine (impl_AtomOk.calls k a0_2 t161 _ A11.out).mono ?_);rintro e w' ⟨rfl,⟨nd,rfl⟩⟩;(try first | exact ⟨rfl,_,World.drewN_drewN _ _ _⟩ | exact ⟨rfl,_,Eq.trans (World.drewN_drewN _ _ _) (congrArg (World.drewN _) (Nat.add_assoc _ _ _))⟩)));try go_wp2_with (first | ((with_reducible refine gate_dst (N := 1) rfl ?_);refine box_event ?hg (N := 1) ?hd (cs := #[.int .i64 a0_0,.int .i64 a0_1,.string a0_2]) (t := 32) ?hr ?_;(case hd => rfl);(case hg => rfl);(case hr => first | (go_simp;done) | (go_simp;rfl));intro gb159 hg w12 hbox hb;have n0_ := Aside0.mk (below_step (by repeat (first | (with_reducible first | exact HB.out | apply below_alloc | apply pw_below_drewN | apply below_drew1) | exact HB.out)) hb);have n1_ := Aside0.mk (hbox);have n2_ := Aside0.mk ((by rw [hg];exact (below_size (by repeat (first | (with_reducible first | exact HB.out | apply below_alloc | apply pw_below_drewN | apply below_drew1) | exact HB.out))) : w.heap.size ≤ gb159));have n3_ := Aside0.mk ((by rw [hg];exact (below_size (by repeat (first | (with_reducible first | exact HB.out | apply below_alloc | apply pw_below_drewN | apply below_drew1) | exact HB.out))) : w.heap.size ≤ gb159));clear HB;have HB := n0_;have BK159 := n1_;have GW159 := n2_;have GE159 := n3_;clear n0_ n1_ n2_ n3_;clear hb hbox hg;have hcz13_0 : w12.cell? ⟨gb159,0,none⟩ = some (.int .i64 a0_0) := (blk_cell BK159.out 0).trans rfl;have hcz13_1 : w12.cell? ⟨gb159,1,none⟩ = some (.int .i64 a0_1) := (blk_cell BK159.out 1).trans rfl;have hcz13_2 : w12.cell? ⟨gb159,2,none⟩ = some (.string a0_2) := (blk_cell BK159.out 2).trans rfl;have hfz13_0 := blk_frozen BK159.out 0;have hfz13_1 := blk_frozen BK159.out 1;have hfz13_2 := blk_frozen BK159.out 2) | (go_at_call 6;(with_reducible refine (impl_AtomOk.calls k a0_2 t161 _ A11.out).mono ?_);rintro e w' ⟨rfl,⟨nd,rfl⟩⟩;(try first | exact ⟨rfl,_,World.drewN_drewN _ _ _⟩ | exact ⟨rfl,_,Eq.trans (World.drewN_drewN _ _ _) (congrArg (World.drewN _) (Nat.add_assoc _ _ _))⟩))))
        go_ret
        exact ⟨by first | rfl | (simp [errW_none,errW_some] <;> rfl) | (simp [*,errW_none,errW_some] <;> rfl) | (rw [isEmpty_ne];first | done | rfl) | (rw [isEmpty_be];first | done | rfl),by repeat (first | (with_reducible first | exact HB.out | apply below_alloc | apply pw_below_drewN | apply below_drew1 | refine below_set ?_ GE159.out) | exact HB.out)⟩
      · rw [if_neg c10] at H
        have c10b0 : (a0_1 == 0) = false := beq_eq_false_iff_ne.mpr c10
        have c10b1 : (a0_1 != 0) = true := bne_iff_ne.mpr c10
        obtain rfl := Option.some.inj H
        go_enter Try.func9,Try.ntmps9
        go_wp2_with (first | ((with_reducible refine gate_dst (N := 1) rfl ?_);refine box_event ?hg (N := 1) ?hd (cs := #[.int .i64 a0_0,.int .i64 a0_1,.string a0_2]) (t := 32) ?hr ?_;(case hd => rfl);(case hg => rfl);(case hr => first | (go_simp;done) | (go_simp;rfl));intro gb159 hg w14 hbox hb;have n0_ := Aside0.mk (below_step (by repeat (first | (with_reducible first | exact HB.out | apply below_alloc | apply pw_below_drewN | apply below_drew1) | exact HB.out)) hb);have n1_ := Aside0.mk (hbox);have n2_ := Aside0.mk ((by rw [hg];exact (below_size (by repeat (first | (with_reducible first | exact HB.out | apply below_alloc | apply pw_below_drewN | apply below_drew1) | exact HB.out))) : w.heap.size ≤ gb159));have n3_ := Aside0.mk ((by rw [hg];exact (below_size (by repeat (first | (with_reducible first | exact HB.out | apply below_alloc | apply pw_below_drewN | apply below_drew1) | exact HB.out))) : w.heap.size ≤ gb159));clear HB;have HB := n0_;have BK159 := n1_;have GW159 := n2_;have GE159 := n3_;clear n0_ n1_ n2_ n3_;clear hb hbox hg;have hcz15_0 : w14.cell? ⟨gb159,0,none⟩ = some (.int .i64 a0_0) := (blk_cell BK159.out 0).trans rfl;have hcz15_1 : w14.cell? ⟨gb159,1,none⟩ = some (.int .i64 a0_1) := (blk_cell BK159.out 1).trans rfl;have hcz15_2 : w14.cell? ⟨gb159,2,none⟩ = some (.string a0_2) := (blk_cell BK159.out 2).trans rfl;have hfz15_0 := blk_frozen BK159.out 0;have hfz15_1 := blk_frozen BK159.out 1;have hfz15_2 := blk_frozen BK159.out 2))
        repeat (go_quiet (first | ((with_reducible refine gate_dst (N := 1) rfl ?_);refine box_event ?hg (N := 1) ?hd (cs := #[.int .i64 a0_0,.int .i64 a0_1,.string a0_2]) (t := 32) ?hr ?_;(case hd => rfl);(case hg => rfl);(case hr => first | (go_simp;done) | (go_simp;rfl));intro gb159 hg w14 hbox hb;have n0_ := Aside0.mk (below_step (by repeat (first | (with_reducible first | exact HB.out | apply below_alloc | apply pw_below_drewN | apply below_drew1) | exact HB.out)) hb);have n1_ := Aside0.mk (hbox);have n2_ := Aside0.mk ((by rw [hg];exact (below_size (by repeat (first | (with_reducible first | exact HB.out | apply below_alloc | apply pw_below_drewN | apply below_drew1) | exact HB.out))) : w.heap.size ≤ gb159));have n3_ := Aside0.mk ((by rw [hg];exact (below_size (by repeat (first | (with_reducible first | exact HB.out | apply below_alloc | apply pw_below_drewN | apply below_drew1) | exact HB.out))) : w.heap.size ≤ gb159));clear HB;have HB := n0_;have BK159 := n1_;have GW159 := n2_;have GE159 := n3_;clear n0_ n1_ n2_ n3_;clear hb hbox hg;have hcz15_0 : w14.cell? ⟨gb159,0,none⟩ = some (.int .i64 a0_0) := (blk_cell BK159.out 0).trans rfl;have hcz15_1 : w14.cell? ⟨gb159,1,none⟩ = some (.int .i64 a0_1) := (blk_cell BK159.out 1).trans rfl;have hcz15_2 : w14.cell? ⟨gb159,2,none⟩ = some (.string a0_2) := (blk_cell BK159.out 2).trans rfl;have hfz15_0 := blk_frozen BK159.out 0;have hfz15_1 := blk_frozen BK159.out 1;have hfz15_2 := blk_frozen BK159.out 2));try go_wp2_with (first | ((with_reducible refine gate_dst (N := 1) rfl ?_);refine box_event ?hg (N := 1) ?hd (cs := #[.int .i64 a0_0,.int .i64 a0_1,.string a0_2]) (t := 32) ?hr ?_;(case hd => rfl);(case hg => rfl);(case hr => first | (go_simp;done) | (go_simp;rfl));intro gb159 hg w14 hbox hb;have n0_ := Aside0.mk (below_step (by repeat (first | (with_reducible first | exact HB.out | apply below_alloc | apply pw_below_drewN | apply below_drew1) | exact HB.out)) hb);have n1_ := Aside0.mk (hbox);have n2_ := Aside0.mk ((by rw [hg];exact (below_size (by repeat (first | (with_reducible first | exact HB.out | apply below_alloc | apply pw_below_drewN | apply below_drew1) | exact HB.out))) : w.heap.size ≤ gb159));have n3_ := Aside0.mk ((by rw [hg];exact (below_size (by repeat (first | (with_reducible first | exact HB.out | apply below_alloc | apply pw_below_drewN | apply below_drew1) | exact HB.out))) : w.heap.size ≤ gb159));clear HB;have HB := n0_;have BK159 := n1_;have GW159 := n2_;have GE159 := n3_;clear n0_ n1_ n2_ n3_;clear hb hbox hg;have hcz15_0 : w14.cell? ⟨gb159,0,none⟩ = some (.int .i64 a0_0) := (blk_cell BK159.out 0).trans rfl;have hcz15_1 : w14.cell? ⟨gb159,1,none⟩ = some (.int .i64 a0_1) := (blk_cell BK159.out 1).trans rfl;have hcz15_2 : w14.cell? ⟨gb159,2,none⟩ = some (.string a0_2) := (blk_cell BK159.out 2).trans rfl;have hfz15_0 := blk_frozen BK159.out 0;have hfz15_1 := blk_frozen BK159.out 1;have hfz15_2 := blk_frozen BK159.out 2)))
        go_ret
        exact ⟨by first | rfl | (simp [errW_none,errW_some] <;> rfl) | (simp [*,errW_none,errW_some] <;> rfl) | (rw [isEmpty_ne];first | done | rfl) | (rw [isEmpty_be];first | done | rfl),by repeat (first | (with_reducible first | exact HB.out | apply below_alloc | apply pw_below_drewN | apply below_drew1 | refine below_set ?_ GE159.out) | exact HB.out)⟩
    · rw [if_neg c9] at H
      have c9b0 : (a0_0 == 2) = false := beq_eq_false_iff_ne.mpr c9
      have c9b1 : (a0_0 != 2) = true := bne_iff_ne.mpr c9
      by_cases c16 : a0_0 = 3
      · rw [if_pos c16] at H
        have c16b0 : (a0_0 == 3) = true := beq_iff_eq.mpr c16
        have c16b1 : (a0_0 != 3) = false := bne_eq_false_iff_eq.mpr c16
        clear c16
        by_cases c17 : a0_1 = 0
        · rw [if_pos c17] at H
          have c17b0 : (a0_1 == 0) = true := beq_iff_eq.mpr c17
          have c17b1 : (a0_1 != 0) = false := bne_eq_false_iff_eq.mpr c17
          clear c17
          replace H := Option.bind_eq_some_iff.mp H
          obtain ⟨t162,A180,H⟩ := H
          replace H : (some t162) = some r := H
          have A18 := Aside0.mk A180
          clear A180
          obtain rfl := Option.some.inj H
          go_enter Try.func9,Try.ntmps9
          go_wp2_with (first | ((with_reducible refine gate_dst (N := 1) rfl ?_);refine box_event ?hg (N := 1) ?hd (cs := #[.int .i64 a0_0,.int .i64 a0_1,.string a0_2]) (t := 32) ?hr ?_;(case hd => rfl);(case hg => rfl);(case hr => first | (go_simp;done) | (go_simp;rfl));intro gb159 hg w19 hbox hb;have n0_ := Aside0.mk (below_step (by repeat (first | (with_reducible first | exact HB.out | apply below_alloc | apply pw_below_drewN | apply below_drew1) | exact HB.out)) hb);have n1_ := Aside0.mk (hbox);have n2_ := Aside0.mk ((by rw [hg];exact (below_size (by repeat (first | (with_reducible first | exact HB.out | apply below_alloc | apply pw_below_drewN | apply below_drew1) | exact HB.out))) : w.heap.size ≤ gb159));have n3_ := Aside0.mk ((by rw [hg];exact (below_size (by repeat (first | (with_reducible first | exact HB.out | apply below_alloc | apply pw_below_drewN | apply below_drew1) | exact HB.out))) : w.heap.size ≤ gb159));clear HB;have HB := n0_;have BK159 := n1_;have GW159 := n2_;have GE159 := n3_;clear n0_ n1_ n2_ n3_;clear hb hbox hg;have hcz20_0 : w19.cell? ⟨gb159,0,none⟩ = some (.int .i64 a0_0) := (blk_cell BK159.out 0).trans rfl;have hcz20_1 : w19.cell? ⟨gb159,1,none⟩ = some (.int .i64 a0_1) := (blk_cell BK159.out 1).trans rfl;have hcz20_2 : w19.cell? ⟨gb159,2,none⟩ = some (.string a0_2) := (blk_cell BK159.out 2).trans rfl;have hfz20_0 := blk_frozen BK159.out 0;have hfz20_1 := blk_frozen BK159.out 1;have hfz20_2 := blk_frozen BK159.out 2) | (go_at_call 18;(with_reducible refine (impl_varOk.calls k a0_2 t162 _ A18.out).mono ?_);rintro e w' ⟨rfl,⟨nd,rfl⟩⟩;(try first | exact ⟨rfl,_,World.drewN_drewN _ _ _⟩ | exact ⟨rfl,_,Eq.trans (World.drewN_drewN _ _ _) (congrArg (World.drewN _) (Nat.add_assoc _ _ _))⟩)))
          repeat (go_quiet (first | ((with_reducible refine gate_dst (N := 1) rfl ?_);refine box_event ?hg (N := 1) ?hd (cs := #[.int .i64 a0_0,.int .i64 a0_1,.string a0_2]) (t := 32) ?hr ?_;(case hd => rfl);(case hg => rfl);(case hr => first | (go_simp;done) | (go_simp;rfl));intro gb159 hg w19 hbox hb;have n0_ := Aside0.mk (below_step (by repeat (first | (with_reducible first | exact HB.out | apply below_alloc | apply pw_below_drewN | apply below_drew1) | exact HB.out)) hb);have n1_ := Aside0.mk (hbox);have n2_ := Aside0.mk ((by rw [hg];exact (below_size (by repeat (first | (with_reducible first | exact HB.out | apply below_alloc | apply pw_below_drewN | apply below_drew1) | exact HB.out))) : w.heap.size ≤ gb159));have n3_ := Aside0.mk ((by rw [hg];exact (below_size (by repeat (first | (with_reducible first | exact HB.out | apply below_alloc | apply pw_below_drewN | apply below_drew1) | exact HB.out))) : w.heap.size ≤ gb159));clear HB;have HB := n0_;have BK159 := n1_;have GW159 := n2_;have GE159 := n3_;clear n0_ n1_ n2_ n3_;clear hb hbox hg;have hcz20_0 : w19.cell? ⟨gb159,0,none⟩ = some (.int .i64 a0_0) := (blk_cell BK159.out 0).trans rfl;have hcz20_1 : w19.cell? ⟨gb159,1,none⟩ = some (.int .i64 a0_1) := (blk_cell BK159.out 1).trans rfl;have hcz20_2 : w19.cell? ⟨gb159,2,none⟩ = some (.string a0_2) := (blk_cell BK159.out 2).trans rfl;have hfz20_0 := blk_frozen BK159.out 0;have hfz20_1 := blk_frozen BK159.out 1;have hfz20_2 := blk_frozen BK159.out 2) | (go_at_call 18;(with_reducible refine (impl_varOk.calls k a0_2 t162 _ A18.out).mono ?_);rintro e w' ⟨rfl,⟨nd,rfl⟩⟩;(try first | exact ⟨rfl,_,World.drewN_drewN _ _ _⟩ | exact ⟨rfl,_,Eq.trans (World.drewN_drewN _ _ _) (congrArg (World.drewN _) (Nat.add_assoc _ _ _))⟩)));try go_wp2_with (first | ((with_reducible refine gate_dst (N := 1) rfl ?_);refine box_event ?hg (N := 1) ?hd (cs := #[.int .i64 a0_0,.int .i64 a0_1,.string a0_2]) (t := 32) ?hr ?_;(case hd => rfl);(case hg => rfl);(case hr => first | (go_simp;done) | (go_simp;rfl));intro gb159 hg w19 hbox hb;have n0_ := Aside0.mk (below_step (by repeat (first | (with_reducible first | exact HB.out | apply below_alloc | apply pw_below_drewN | apply below_drew1) | exact HB.out)) hb);have n1_ := Aside0.mk (hbox);have n2_ := Aside0.mk ((by rw [hg];exact (below_size (by repeat (first | (with_reducible first | exact HB.out | apply below_alloc | apply pw_below_drewN | apply below_drew1) | exact HB.out))) : w.heap.size ≤ gb159));have n3_ := Aside0.mk ((by rw [hg];exact (below_size (by repeat (first | (with_reducible first | exact HB.out | apply below_alloc | apply pw_below_drewN | apply below_drew1) | exact HB.out))) : w.heap.size ≤ gb159));clear HB;have HB := n0_;have BK159 := n1_;have GW159 := n2_;have GE159 := n3_;clear n0_ n1_ n2_ n3_;clear hb hbox hg;have hcz20_0 : w19.cell? ⟨gb159,0,none⟩ = some (.int .i64 a0_0) := (blk_cell BK159.out 0).trans rfl;have hcz20_1 : w19.cell? ⟨gb159,1,none⟩ = some (.int .i64 a0_1) := (blk_cell BK159.out 1).trans rfl;have hcz20_2 : w19.cell? ⟨gb159,2,none⟩ = some (.string a0_2) := (blk_cell BK159.out 2).trans rfl;have hfz20_0 := blk_frozen BK159.out 0;have hfz20_1 := blk_frozen BK159.out 1;have hfz20_2 := blk_frozen BK159.out 2) | (go_at_call 18;(with_reducible refine (impl_varOk.calls k a0_2 t162 _ A18.out).mono ?_);rintro e w' ⟨rfl,⟨nd,rfl⟩⟩;(try first | exact ⟨rfl,_,World.drewN_drewN _ _ _⟩ | exact ⟨rfl,_,Eq.trans (World.drewN_drewN _ _ _) (congrArg (World.drewN _) (Nat.add_assoc _ _ _))⟩))))
          go_ret
          exact ⟨by first | rfl | (simp [errW_none,errW_some] <;> rfl) | (simp [*,errW_none,errW_some] <;> rfl) | (rw [isEmpty_ne];first | done | rfl) | (rw [isEmpty_be];first | done | rfl),by repeat (first | (with_reducible first | exact HB.out | apply below_alloc | apply pw_below_drewN | apply below_drew1 | refine below_set ?_ GE159.out) | exact HB.out)⟩
        · rw [if_neg c17] at H
          have c17b0 : (a0_1 == 0) = false := beq_eq_false_iff_ne.mpr c17
          have c17b1 : (a0_1 != 0) = true := bne_iff_ne.mpr c17
          obtain rfl := Option.some.inj H
          go_enter Try.func9,Try.ntmps9
          go_wp2_with (first | ((with_reducible refine gate_dst (N := 1) rfl ?_);refine box_event ?hg (N := 1) ?hd (cs := #[.int .i64 a0_0,.int .i64 a0_1,.string a0_2]) (t := 32) ?hr ?_;(case hd => rfl);(case hg => rfl);(case hr => first | (go_simp;done) | (go_simp;rfl));intro gb159 hg w21 hbox hb;have n0_ := Aside0.mk (below_step (by repeat (first | (with_reducible first | exact HB.out | apply below_alloc | apply pw_below_drewN | apply below_drew1) | exact HB.out)) hb);have n1_ := Aside0.mk (hbox);have n2_ := Aside0.mk ((by rw [hg];exact (below_size (by repeat (first | (with_reducible first | exact HB.out | apply below_alloc | apply pw_below_drewN | apply below_drew1) | exact HB.out))) : w.heap.size ≤ gb159));have n3_ := Aside0.mk ((by rw [hg];exact (below_size (by repeat (first | (with_reducible first | exact HB.out | apply below_alloc | apply pw_below_drewN | apply below_drew1) | exact HB.out))) : w.heap.size ≤ gb159));clear HB;have HB := n0_;have BK159 := n1_;have GW159 := n2_;have GE159 := n3_;clear n0_ n1_ n2_ n3_;clear hb hbox hg;have hcz22_0 : w21.cell? ⟨gb159,0,none⟩ = some (.int .i64 a0_0) := (blk_cell BK159.out 0).trans rfl;have hcz22_1 : w21.cell? ⟨gb159,1,none⟩ = some (.int .i64 a0_1) := (blk_cell BK159.out 1).trans rfl;have hcz22_2 : w21.cell? ⟨gb159,2,none⟩ = some (.string a0_2) := (blk_cell BK159.out 2).trans rfl;have hfz22_0 := blk_frozen BK159.out 0;have hfz22_1 := blk_frozen BK159.out 1;have hfz22_2 := blk_frozen BK159.out 2))
          repeat (go_quiet (first | ((with_reducible refine gate_dst (N := 1) rfl ?_);refine box_event ?hg (N := 1) ?hd (cs := #[.int .i64 a0_0,.int .i64 a0_1,.string a0_2]) (t := 32) ?hr ?_;(case hd => rfl);(case hg => rfl);(case hr => first | (go_simp;done) | (go_simp;rfl));intro gb159 hg w21 hbox hb;have n0_ := Aside0.mk (below_step (by repeat (first | (with_reducible first | exact HB.out | apply below_alloc | apply pw_below_drewN | apply below_drew1) | exact HB.out)) hb);have n1_ := Aside0.mk (hbox);have n2_ := Aside0.mk ((by rw [hg];exact (below_size (by repeat (first | (with_reducible first | exact HB.out | apply below_alloc | apply pw_below_drewN | apply below_drew1) | exact HB.out))) : w.heap.size ≤ gb159));have n3_ := Aside0.mk ((by rw [hg];exact (below_size (by repeat (first | (with_reducible first | exact HB.out | apply below_alloc | apply pw_below_drewN | apply below_drew1) | exact HB.out))) : w.heap.size ≤ gb159));clear HB;have HB := n0_;have BK159 := n1_;have GW159 := n2_;have GE159 := n3_;clear n0_ n1_ n2_ n3_;clear hb hbox hg;have hcz22_0 : w21.cell? ⟨gb159,0,none⟩ = some (.int .i64 a0_0) := (blk_cell BK159.out 0).trans rfl;have hcz22_1 : w21.cell? ⟨gb159,1,none⟩ = some (.int .i64 a0_1) := (blk_cell BK159.out 1).trans rfl;have hcz22_2 : w21.cell? ⟨gb159,2,none⟩ = some (.string a0_2) := (blk_cell BK159.out 2).trans rfl;have hfz22_0 := blk_frozen BK159.out 0;have hfz22_1 := blk_frozen BK159.out 1;have hfz22_2 := blk_frozen BK159.out 2));try go_wp2_with (first | ((with_reducible refine gate_dst (N := 1) rfl ?_);refine box_event ?hg (N := 1) ?hd (cs := #[.int .i64 a0_0,.int .i64 a0_1,.string a0_2]) (t := 32) ?hr ?_;(case hd => rfl);(case hg => rfl);(case hr => first | (go_simp;done) | (go_simp;rfl));intro gb159 hg w21 hbox hb;have n0_ := Aside0.mk (below_step (by repeat (first | (with_reducible first | exact HB.out | apply below_alloc | apply pw_below_drewN | apply below_drew1) | exact HB.out)) hb);have n1_ := Aside0.mk (hbox);have n2_ := Aside0.mk ((by rw [hg];exact (below_size (by repeat (first | (with_reducible first | exact HB.out | apply below_alloc | apply pw_below_drewN | apply below_drew1) | exact HB.out))) : w.heap.size ≤ gb159));have n3_ := Aside0.mk ((by rw [hg];exact (below_size (by repeat (first | (with_reducible first | exact HB.out | apply below_alloc | apply pw_below_drewN | apply below_drew1) | exact HB.out))) : w.heap.size ≤ gb159));clear HB;have HB := n0_;have BK159 := n1_;have GW159 := n2_;have GE159 := n3_;clear n0_ n1_ n2_ n3_;clear hb hbox hg;have hcz22_0 : w21.cell? ⟨gb159,0,none⟩ = some (.int .i64 a0_0) := (blk_cell BK159.out 0).trans rfl;have hcz22_1 : w21.cell? ⟨gb159,1,none⟩ = some (.int .i64 a0_1) := (blk_cell BK159.out 1).trans rfl;have hcz22_2 : w21.cell? ⟨gb159,2,none⟩ = some (.string a0_2) := (blk_cell BK159.out 2).trans rfl;have hfz22_0 := blk_frozen BK159.out 0;have hfz22_1 := blk_frozen BK159.out 1;have hfz22_2 := blk_frozen BK159.out 2)))
          go_ret
          exact ⟨by first | rfl | (simp [errW_none,errW_some] <;> rfl) | (simp [*,errW_none,errW_some] <;> rfl) | (rw [isEmpty_ne];first | done | rfl) | (rw [isEmpty_be];first | done | rfl),by repeat (first | (with_reducible first | exact HB.out | apply below_alloc | apply pw_below_drewN | apply below_drew1 | refine below_set ?_ GE159.out) | exact HB.out)⟩
      · rw [if_neg c16] at H
        have c16b0 : (a0_0 == 3) = false := beq_eq_false_iff_ne.mpr c16
        have c16b1 : (a0_0 != 3) = true := bne_iff_ne.mpr c16
        by_cases c23 : a0_0 = 4
        · rw [if_pos c23] at H
          have c23b0 : (a0_0 == 4) = true := beq_iff_eq.mpr c23
          have c23b1 : (a0_0 != 4) = false := bne_eq_false_iff_eq.mpr c23
          clear c23
          by_cases c24 : a0_1 = 0
          · rw [if_pos c24] at H
            have c24b0 : (a0_1 == 0) = true := beq_iff_eq.mpr c24
            have c24b1 : (a0_1 != 0) = false := bne_eq_false_iff_eq.mpr c24
            clear c24
            by_cases c25 : a0_2.toList = ([] : List UInt8)
            · rw [if_pos c25] at H
              have c25b0 : (a0_2.toList == ([] : List UInt8)) = true := beq_iff_eq.mpr c25
              have c25b1 : (a0_2.toList != ([] : List UInt8)) = false := bne_eq_false_iff_eq.mpr c25
              clear c25
              obtain rfl := Option.some.inj H
              go_enter Try.func9,Try.ntmps9
              go_wp2_with (first | ((with_reducible refine gate_dst (N := 1) rfl ?_);refine box_event ?hg (N := 1) ?hd (cs := #[.int .i64 a0_0,.int .i64 a0_1,.string a0_2]) (t := 32) ?hr ?_;(case hd => rfl);(case hg => rfl);(case hr => first | (go_simp;done) | (go_simp;rfl));intro gb159 hg w26 hbox hb;have n0_ := Aside0.mk (below_step (by repeat (first | (with_reducible first | exact HB.out | apply below_alloc | apply pw_below_drewN | apply below_drew1) | exact HB.out)) hb);have n1_ := Aside0.mk (hbox);have n2_ := Aside0.mk ((by rw [hg];exact (below_size (by repeat (first | (with_reducible first | exact HB.out | apply below_alloc | apply pw_below_drewN | apply below_drew1) | exact HB.out))) : w.heap.size ≤ gb159));have n3_ := Aside0.mk ((by rw [hg];exact (below_size (by repeat (first | (with_reducible first | exact HB.out | apply below_alloc | apply pw_below_drewN | apply below_drew1) | exact HB.out))) : w.heap.size ≤ gb159));clear HB;have HB := n0_;have BK159 := n1_;have GW159 := n2_;have GE159 := n3_;clear n0_ n1_ n2_ n3_;clear hb hbox hg;have hcz27_0 : w26.cell? ⟨gb159,0,none⟩ = some (.int .i64 a0_0) := (blk_cell BK159.out 0).trans rfl;have hcz27_1 : w26.cell? ⟨gb159,1,none⟩ = some (.int .i64 a0_1) := (blk_cell BK159.out 1).trans rfl;have hcz27_2 : w26.cell? ⟨gb159,2,none⟩ = some (.string a0_2) := (blk_cell BK159.out 2).trans rfl;have hfz27_0 := blk_frozen BK159.out 0;have hfz27_1 := blk_frozen BK159.out 1;have hfz27_2 := blk_frozen BK159.out 2))
              repeat (go_quiet (first | ((with_reducible refine gate_dst (N := 1) rfl ?_);refine box_event ?hg (N := 1) ?hd (cs := #[.int .i64 a0_0,.int .i64 a0_1,.string a0_2]) (t := 32) ?hr ?_;(case hd => rfl);(case hg => rfl);(case hr => first | (go_simp;done) | (go_simp;rfl));intro gb159 hg w26 hbox hb;have n0_ := Aside0.mk (below_step (by repeat (first | (with_reducible first | exact HB.out | apply below_alloc | apply pw_below_drewN | apply below_drew1) | exact HB.out)) hb);have n1_ := Aside0.mk (hbox);have n2_ := Aside0.mk ((by rw [hg];exact (below_size (by repeat (first | (with_reducible first | exact HB.out | apply below_alloc | apply pw_below_drewN | apply below_drew1) | exact HB.out))) : w.heap.size ≤ gb159));have n3_ := Aside0.mk ((by rw [hg];exact (below_size (by repeat (first | (with_reducible first | exact HB.out | apply below_alloc | apply pw_below_drewN | apply below_drew1) | exact HB.out))) : w.heap.size ≤ gb159));clear HB;have HB := n0_;have BK159 := n1_;have GW159 := n2_;have GE159 := n3_;clear n0_ n1_ n2_ n3_;clear hb hbox hg;have hcz27_0 : w26.cell? ⟨gb159,0,none⟩ = some (.int .i64 a0_0) := (blk_cell BK159.out 0).trans rfl;have hcz27_1 : w26.cell? ⟨gb159,1,none⟩ = some (.int .i64 a0_1) := (blk_cell BK159.out 1).trans rfl;have hcz27_2 : w26.cell? ⟨gb159,2,none⟩ = some (.string a0_2) := (blk_cell BK159.out 2).trans rfl;have hfz27_0 := blk_frozen BK159.out 0;have hfz27_1 := blk_frozen BK159.out 1;have hfz27_2 := blk_frozen BK159.out 2));try go_wp2_with (first | ((with_reducible refine gate_dst (N := 1) rfl ?_);refine box_event ?hg (N := 1) ?hd (cs := #[.int .i64 a0_0,.int .i64 a0_1,.string a0_2]) (t := 32) ?hr ?_;(case hd => rfl);(case hg => rfl);(case hr => first | (go_simp;done) | (go_simp;rfl));intro gb159 hg w26 hbox hb;have n0_ := Aside0.mk (below_step (by repeat (first | (with_reducible first | exact HB.out | apply below_alloc | apply pw_below_drewN | apply below_drew1) | exact HB.out)) hb);have n1_ := Aside0.mk (hbox);have n2_ := Aside0.mk ((by rw [hg];exact (below_size (by repeat (first | (with_reducible first | exact HB.out | apply below_alloc | apply pw_below_drewN | apply below_drew1) | exact HB.out))) : w.heap.size ≤ gb159));have n3_ := Aside0.mk ((by rw [hg];exact (below_size (by repeat (first | (with_reducible first | exact HB.out | apply below_alloc | apply pw_below_drewN | apply below_drew1) | exact HB.out))) : w.heap.size ≤ gb159));clear HB;have HB := n0_;have BK159 := n1_;have GW159 := n2_;have GE159 := n3_;clear n0_ n1_ n2_ n3_;clear hb hbox hg;have hcz27_0 : w26.cell? ⟨gb159,0,none⟩ = some (.int .i64 a0_0) := (blk_cell BK159.out 0).trans rfl;have hcz27_1 : w26.cell? ⟨gb159,1,none⟩ = some (.int .i64 a0_1) := (blk_cell BK159.out 1).trans rfl;have hcz27_2 : w26.cell? ⟨gb159,2,none⟩ = some (.string a0_2) := (blk_cell BK159.out 2).trans rfl;have hfz27_0 := blk_frozen BK159.out 0;have hfz27_1 := blk_frozen BK159.out 1;have hfz27_2 := blk_frozen BK159.out 2)))
              go_ret
              exact ⟨by first | rfl | (simp [errW_none,errW_some] <;> rfl) | (simp [*,errW_none,errW_some] <;> rfl) | (rw [isEmpty_ne];first | done | rfl) | (rw [isEmpty_be];first | done | rfl),by repeat (first | (with_reducible first | exact HB.out | apply below_alloc | apply pw_below_drewN | apply below_drew1 | refine below_set ?_ GE159.out) | exact HB.out)⟩
            · rw [if_neg c25] at H
              have c25b0 : (a0_2.toList == ([] : List UInt8)) = false := beq_eq_false_iff_ne.mpr c25
              have c25b1 : (a0_2.toList != ([] : List UInt8)) = true := bne_iff_ne.mpr c25
              replace H := Option.bind_eq_some_iff.mp H
              obtain ⟨t163,A280,H⟩ := H
              replace H : (some (t163.toList == a0_2.toList)) = some r := H
              have A28 := Aside0.mk A280
              clear A280
              obtain rfl := Option.some.inj H
              go_enter Try.func9,Try.ntmps9
              go_wp2_with (first | ((with_reducible refine gate_dst (N := 1) rfl ?_);refine box_event ?hg (N := 1) ?hd (cs := #[.int .i64 a0_0,.int .i64 a0_1,.string a0_2]) (t := 32) ?hr ?_;(case hd => rfl);(case hg => rfl);(case hr => first | (go_simp;done) | (go_simp;rfl));intro gb159 hg w29 hbox hb;have n0_ := Aside0.mk (below_step (by repeat (first | (with_reducible first | exact HB.out | apply below_alloc | apply pw_below_drewN | apply below_drew1) | exact HB.out)) hb);have n1_ := Aside0.mk (hbox);have n2_ := Aside0.mk ((by rw [hg];exact (below_size (by repeat (first | (with_reducible first | exact HB.out | apply below_alloc | apply pw_below_drewN | apply below_drew1) | exact HB.out))) : w.heap.size ≤ gb159));have n3_ := Aside0.mk ((by rw [hg];exact (below_size (by repeat (first | (with_reducible first | exact HB.out | apply below_alloc | apply pw_below_drewN | apply below_drew1) | exact HB.out))) : w.heap.size ≤ gb159));clear HB;have HB := n0_;have BK159 := n1_;have GW159 := n2_;have GE159 := n3_;clear n0_ n1_ n2_ n3_;clear hb hbox hg;have hcz30_0 : w29.cell? ⟨gb159,0,none⟩ = some (.int .i64 a0_0) := (blk_cell BK159.out 0).trans rfl;have hcz30_1 : w29.cell? ⟨gb159,1,none⟩ = some (.int .i64 a0_1) := (blk_cell BK159.out 1).trans rfl;have hcz30_2 : w29.cell? ⟨gb159,2,none⟩ = some (.string a0_2) := (blk_cell BK159.out 2).trans rfl;have hfz30_0 := blk_frozen BK159.out 0;have hfz30_1 := blk_frozen BK159.out 1;have hfz30_2 := blk_frozen BK159.out 2) | (go_at_call 19;(with_reducible refine (impl_markOf.calls k a0_2 t163 _ A28.out).mono ?_);rintro e w' ⟨rfl,⟨nd,rfl⟩⟩;(try first | exact ⟨rfl,_,World.drewN_drewN _ _ _⟩ | exact ⟨rfl,_,Eq.trans (World.drewN_drewN _ _ _) (congrArg (World.drewN _) (Nat.add_assoc _ _ _))⟩)))
              repeat (go_quiet (first | ((with_reducible refine gate_dst (N := 1) rfl ?_);refine box_event ?hg (N := 1) ?hd (cs := #[.int .i64 a0_0,.int .i64 a0_1,.string a0_2]) (t := 32) ?hr ?_;(case hd => rfl);(case hg => rfl);(case hr => first | (go_simp;done) | (go_simp;rfl));intro gb159 hg w29 hbox hb;have n0_ := Aside0.mk (below_step (by repeat (first | (with_reducible first | exact HB.out | apply below_alloc | apply pw_below_drewN | apply below_drew1) | exact HB.out)) hb);have n1_ := Aside0.mk (hbox);have n2_ := Aside0.mk ((by rw [hg];exact (below_size (by repeat (first | (with_reducible first | exact HB.out | apply below_alloc | apply pw_below_drewN | apply below_drew1) | exact HB.out))) : w.heap.size ≤ gb159));have n3_ := Aside0.mk ((by rw [hg];exact (below_size (by repeat (first | (with_reducible first | exact HB.out | apply below_alloc | apply pw_below_drewN | apply below_drew1) | exact HB.out))) : w.heap.size ≤ gb159));clear HB;have HB := n0_;have BK159 := n1_;have GW159 := n2_;have GE159 := n3_;clear n0_ n1_ n2_ n3_;clear hb hbox hg;have hcz30_0 : w29.cell? ⟨gb159,0,none⟩ = some (.int .i64 a0_0) := (blk_cell BK159.out 0).trans rfl;have hcz30_1 : w29.cell? ⟨gb159,1,none⟩ = some (.int .i64 a0_1) := (blk_cell BK159.out 1).trans rfl;have hcz30_2 : w29.cell? ⟨gb159,2,none⟩ = some (.string a0_2) := (blk_cell BK159.out 2).trans rfl;have hfz30_0 := blk_frozen BK159.out 0;have hfz30_1 := blk_frozen BK159.out 1;have hfz30_2 := blk_frozen BK159.out 2) | (go_at_call 19;(with_reducible refine (impl_markOf.calls k a0_2 t163 _ A28.out).mono ?_);rintro e w' ⟨rfl,⟨nd,rfl⟩⟩;(try first | exact ⟨rfl,_,World.drewN_drewN _ _ _⟩ | exact ⟨rfl,_,Eq.trans (World.drewN_drewN _ _ _) (congrArg (World.drewN _) (Nat.add_assoc _ _ _))⟩)));try go_wp2_with (first | ((with_reducible refine gate_dst (N := 1) rfl ?_);refine box_event ?hg (N := 1) ?hd (cs := #[.int .i64 a0_0,.int .i64 a0_1,.string a0_2]) (t := 32) ?hr ?_;(case hd => rfl);(case hg => rfl);(case hr => first | (go_simp;done) | (go_simp;rfl));intro gb159 hg w29 hbox hb;have n0_ := Aside0.mk (below_step (by repeat (first | (with_reducible first | exact HB.out | apply below_alloc | apply pw_below_drewN | apply below_drew1) | exact HB.out)) hb);have n1_ := Aside0.mk (hbox);have n2_ := Aside0.mk ((by rw [hg];exact (below_size (by repeat (first | (with_reducible first | exact HB.out | apply below_alloc | apply pw_below_drewN | apply below_drew1) | exact HB.out))) : w.heap.size ≤ gb159));have n3_ := Aside0.mk ((by rw [hg];exact (below_size (by repeat (first | (with_reducible first | exact HB.out | apply below_alloc | apply pw_below_drewN | apply below_drew1) | exact HB.out))) : w.heap.size ≤ gb159));clear HB;have HB := n0_;have BK159 := n1_;have GW159 := n2_;have GE159 := n3_;clear n0_ n1_ n2_ n3_;clear hb hbox hg;have hcz30_0 : w29.cell? ⟨gb159,0,none⟩ = some (.int .i64 a0_0) := (blk_cell BK159.out 0).trans rfl;have hcz30_1 : w29.cell? ⟨gb159,1,none⟩ = some (.int .i64 a0_1) := (blk_cell BK159.out 1).trans rfl;have hcz30_2 : w29.cell? ⟨gb159,2,none⟩ = some (.string a0_2) := (blk_cell BK159.out 2).trans rfl;have hfz30_0 := blk_frozen BK159.out 0;have hfz30_1 := blk_frozen BK159.out 1;have hfz30_2 := blk_frozen BK159.out 2) | (go_at_call 19;(with_reducible refine (impl_markOf.calls k a0_2 t163 _ A28.out).mono ?_);rintro e w' ⟨rfl,⟨nd,rfl⟩⟩;(try first | exact ⟨rfl,_,World.drewN_drewN _ _ _⟩ | exact ⟨rfl,_,Eq.trans (World.drewN_drewN _ _ _) (congrArg (World.drewN _) (Nat.add_assoc _ _ _))⟩))))
              go_ret
              exact ⟨by first | rfl | (simp [errW_none,errW_some] <;> rfl) | (simp [*,errW_none,errW_some] <;> rfl) | (rw [isEmpty_ne];first | done | rfl) | (rw [isEmpty_be];first | done | rfl),by repeat (first | (with_reducible first | exact HB.out | apply below_alloc | apply pw_below_drewN | apply below_drew1 | refine below_set ?_ GE159.out) | exact HB.out)⟩
          · rw [if_neg c24] at H
            have c24b0 : (a0_1 == 0) = false := beq_eq_false_iff_ne.mpr c24
            have c24b1 : (a0_1 != 0) = true := bne_iff_ne.mpr c24
            obtain rfl := Option.some.inj H
            go_enter Try.func9,Try.ntmps9
            go_wp2_with (first | ((with_reducible refine gate_dst (N := 1) rfl ?_);refine box_event ?hg (N := 1) ?hd (cs := #[.int .i64 a0_0,.int .i64 a0_1,.string a0_2]) (t := 32) ?hr ?_;(case hd => rfl);(case hg => rfl);(case hr => first | (go_simp;done) | (go_simp;rfl));intro gb159 hg w31 hbox hb;have n0_ := Aside0.mk (below_step (by repeat (first | (with_reducible first | exact HB.out | apply below_alloc | apply pw_below_drewN | apply below_drew1) | exact HB.out)) hb);have n1_ := Aside0.mk (hbox);have n2_ := Aside0.mk ((by rw [hg];exact (below_size (by repeat (first | (with_reducible first | exact HB.out | apply below_alloc | apply pw_below_drewN | apply below_drew1) | exact HB.out))) : w.heap.size ≤ gb159));have n3_ := Aside0.mk ((by rw [hg];exact (below_size (by repeat (first | (with_reducible first | exact HB.out | apply below_alloc | apply pw_below_drewN | apply below_drew1) | exact HB.out))) : w.heap.size ≤ gb159));clear HB;have HB := n0_;have BK159 := n1_;have GW159 := n2_;have GE159 := n3_;clear n0_ n1_ n2_ n3_;clear hb hbox hg;have hcz32_0 : w31.cell? ⟨gb159,0,none⟩ = some (.int .i64 a0_0) := (blk_cell BK159.out 0).trans rfl;have hcz32_1 : w31.cell? ⟨gb159,1,none⟩ = some (.int .i64 a0_1) := (blk_cell BK159.out 1).trans rfl;have hcz32_2 : w31.cell? ⟨gb159,2,none⟩ = some (.string a0_2) := (blk_cell BK159.out 2).trans rfl;have hfz32_0 := blk_frozen BK159.out 0;have hfz32_1 := blk_frozen BK159.out 1;have hfz32_2 := blk_frozen BK159.out 2))
            repeat (go_quiet (first | ((with_reducible refine gate_dst (N := 1) rfl ?_);refine box_event ?hg (N := 1) ?hd (cs := #[.int .i64 a0_0,.int .i64 a0_1,.string a0_2]) (t := 32) ?hr ?_;(case hd => rfl);(case hg => rfl);(case hr => first | (go_simp;done) | (go_simp;rfl));intro gb159 hg w31 hbox hb;have n0_ := Aside0.mk (below_step (by repeat (first | (with_reducible first | exact HB.out | apply below_alloc | apply pw_below_drewN | apply below_drew1) | exact HB.out)) hb);have n1_ := Aside0.mk (hbox);have n2_ := Aside0.mk ((by rw [hg];exact (below_size (by repeat (first | (with_reducible first | exact HB.out | apply below_alloc | apply pw_below_drewN | apply below_drew1) | exact HB.out))) : w.heap.size ≤ gb159));have n3_ := Aside0.mk ((by rw [hg];exact (below_size (by repeat (first | (with_reducible first | exact HB.out | apply below_alloc | apply pw_below_drewN | apply below_drew1) | exact HB.out))) : w.heap.size ≤ gb159));clear HB;have HB := n0_;have BK159 := n1_;have GW159 := n2_;have GE159 := n3_;clear n0_ n1_ n2_ n3_;clear hb hbox hg;have hcz32_0 : w31.cell? ⟨gb159,0,none⟩ = some (.int .i64 a0_0) := (blk_cell BK159.out 0).trans rfl;have hcz32_1 : w31.cell? ⟨gb159,1,none⟩ = some (.int .i64 a0_1) := (blk_cell BK159.out 1).trans rfl;have hcz32_2 : w31.cell? ⟨gb159,2,none⟩ = some (.string a0_2) := (blk_cell BK159.out 2).trans rfl;have hfz32_0 := blk_frozen BK159.out 0;have hfz32_1 := blk_frozen BK159.out 1;have hfz32_2 := blk_frozen BK159.out 2));try go_wp2_with (first | ((with_reducible refine gate_dst (N := 1) rfl ?_);refine box_event ?hg (N := 1) ?hd (cs := #[.int .i64 a0_0,.int .i64 a0_1,.string a0_2]) (t := 32) ?hr ?_;(case hd => rfl);(case hg => rfl);(case hr => first | (go_simp;done) | (go_simp;rfl));intro gb159 hg w31 hbox hb;have n0_ := Aside0.mk (below_step (by repeat (first | (with_reducible first | exact HB.out | apply below_alloc | apply pw_below_drewN | apply below_drew1) | exact HB.out)) hb);have n1_ := Aside0.mk (hbox);have n2_ := Aside0.mk ((by rw [hg];exact (below_size (by repeat (first | (with_reducible first | exact HB.out | apply below_alloc | apply pw_below_drewN | apply below_drew1) | exact HB.out))) : w.heap.size ≤ gb159));have n3_ := Aside0.mk ((by rw [hg];exact (below_size (by repeat (first | (with_reducible first | exact HB.out | apply below_alloc | apply pw_below_drewN | apply below_drew1) | exact HB.out))) : w.heap.size ≤ gb159));clear HB;have HB := n0_;have BK159 := n1_;have GW159 := n2_;have GE159 := n3_;clear n0_ n1_ n2_ n3_;clear hb hbox hg;have hcz32_0 : w31.cell? ⟨gb159,0,none⟩ = some (.int .i64 a0_0) := (blk_cell BK159.out 0).trans rfl;have hcz32_1 : w31.cell? ⟨gb159,1,none⟩ = some (.int .i64 a0_1) := (blk_cell BK159.out 1).trans rfl;have hcz32_2 : w31.cell? ⟨gb159,2,none⟩ = some (.string a0_2) := (blk_cell BK159.out 2).trans rfl;have hfz32_0 := blk_frozen BK159.out 0;have hfz32_1 := blk_frozen BK159.out 1;have hfz32_2 := blk_frozen BK159.out 2)))
            go_ret
            exact ⟨by first | rfl | (simp [errW_none,errW_some] <;> rfl) | (simp [*,errW_none,errW_some] <;> rfl) | (rw [isEmpty_ne];first | done | rfl) | (rw [isEmpty_be];first | done | rfl),by repeat (first | (with_reducible first | exact HB.out | apply below_alloc | apply pw_below_drewN | apply below_drew1 | refine below_set ?_ GE159.out) | exact HB.out)⟩
        · rw [if_neg c23] at H
          have c23b0 : (a0_0 == 4) = false := beq_eq_false_iff_ne.mpr c23
          have c23b1 : (a0_0 != 4) = true := bne_iff_ne.mpr c23
          obtain rfl := Option.some.inj H
          go_enter Try.func9,Try.ntmps9
          go_wp2_with (first | ((with_reducible refine gate_dst (N := 1) rfl ?_);refine box_event ?hg (N := 1) ?hd (cs := #[.int .i64 a0_0,.int .i64 a0_1,.string a0_2]) (t := 32) ?hr ?_;(case hd => rfl);(case hg => rfl);(case hr => first | (go_simp;done) | (go_simp;rfl));intro gb159 hg w33 hbox hb;have n0_ := Aside0.mk (below_step (by repeat (first | (with_reducible first | exact HB.out | apply below_alloc | apply pw_below_drewN | apply below_drew1) | exact HB.out)) hb);have n1_ := Aside0.mk (hbox);have n2_ := Aside0.mk ((by rw [hg];exact (below_size (by repeat (first | (with_reducible first | exact HB.out | apply below_alloc | apply pw_below_drewN | apply below_drew1) | exact HB.out))) : w.heap.size ≤ gb159));have n3_ := Aside0.mk ((by rw [hg];exact (below_size (by repeat (first | (with_reducible first | exact HB.out | apply below_alloc | apply pw_below_drewN | apply below_drew1) | exact HB.out))) : w.heap.size ≤ gb159));clear HB;have HB := n0_;have BK159 := n1_;have GW159 := n2_;have GE159 := n3_;clear n0_ n1_ n2_ n3_;clear hb hbox hg;have hcz34_0 : w33.cell? ⟨gb159,0,none⟩ = some (.int .i64 a0_0) := (blk_cell BK159.out 0).trans rfl;have hcz34_1 : w33.cell? ⟨gb159,1,none⟩ = some (.int .i64 a0_1) := (blk_cell BK159.out 1).trans rfl;have hcz34_2 : w33.cell? ⟨gb159,2,none⟩ = some (.string a0_2) := (blk_cell BK159.out 2).trans rfl;have hfz34_0 := blk_frozen BK159.out 0;have hfz34_1 := blk_frozen BK159.out 1;have hfz34_2 := blk_frozen BK159.out 2))
          repeat (go_quiet (first | ((with_reducible refine gate_dst (N := 1) rfl ?_);refine box_event ?hg (N := 1) ?hd (cs := #[.int .i64 a0_0,.int .i64 a0_1,.string a0_2]) (t := 32) ?hr ?_;(case hd => rfl);(case hg => rfl);(case hr => first | (go_simp;done) | (go_simp;rfl));intro gb159 hg w33 hbox hb;have n0_ := Aside0.mk (below_step (by repeat (first | (with_reducible first | exact HB.out | apply below_alloc | apply pw_below_drewN | apply below_drew1) | exact HB.out)) hb);have n1_ := Aside0.mk (hbox);have n2_ := Aside0.mk ((by rw [hg];exact (below_size (by repeat (first | (with_reducible first | exact HB.out | apply below_alloc | apply pw_below_drewN | apply below_drew1) | exact HB.out))) : w.heap.size ≤ gb159));have n3_ := Aside0.mk ((by rw [hg];exact (below_size (by repeat (first | (with_reducible first | exact HB.out | apply below_alloc | apply pw_below_drewN | apply below_drew1) | exact HB.out))) : w.heap.size ≤ gb159));clear HB;have HB := n0_;have BK159 := n1_;have GW159 := n2_;have GE159 := n3_;clear n0_ n1_ n2_ n3_;clear hb hbox hg;have hcz34_0 : w33.cell? ⟨gb159,0,none⟩ = some (.int .i64 a0_0) := (blk_cell BK159.out 0).trans rfl;have hcz34_1 : w33.cell? ⟨gb159,1,none⟩ = some (.int .i64 a0_1) := (blk_cell BK159.out 1).trans rfl;have hcz34_2 : w33.cell? ⟨gb159,2,none⟩ = some (.string a0_2) := (blk_cell BK159.out 2).trans rfl;have hfz34_0 := blk_frozen BK159.out 0;have hfz34_1 := blk_frozen BK159.out 1;have hfz34_2 := blk_frozen BK159.out 2));try go_wp2_with (first | ((with_reducible refine gate_dst (N := 1) rfl ?_);refine box_event ?hg (N := 1) ?hd (cs := #[.int .i64 a0_0,.int .i64 a0_1,.string a0_2]) (t := 32) ?hr ?_;(case hd => rfl);(case hg => rfl);(case hr => first | (go_simp;done) | (go_simp;rfl));intro gb159 hg w33 hbox hb;have n0_ := Aside0.mk (below_step (by repeat (first | (with_reducible first | exact HB.out | apply below_alloc | apply pw_below_drewN | apply below_drew1) | exact HB.out)) hb);have n1_ := Aside0.mk (hbox);have n2_ := Aside0.mk ((by rw [hg];exact (below_size (by repeat (first | (with_reducible first | exact HB.out | apply below_alloc | apply pw_below_drewN | apply below_drew1) | exact HB.out))) : w.heap.size ≤ gb159));have n3_ := Aside0.mk ((by rw [hg];exact (below_size (by repeat (first | (with_reducible first | exact HB.out | apply below_alloc | apply pw_below_drewN | apply below_drew1) | exact HB.out))) : w.heap.size ≤ gb159));clear HB;have HB := n0_;have BK159 := n1_;have GW159 := n2_;have GE159 := n3_;clear n0_ n1_ n2_ n3_;clear hb hbox hg;have hcz34_0 : w33.cell? ⟨gb159,0,none⟩ = some (.int .i64 a0_0) := (blk_cell BK159.out 0).trans rfl;have hcz34_1 : w33.cell? ⟨gb159,1,none⟩ = some (.int .i64 a0_1) := (blk_cell BK159.out 1).trans rfl;have hcz34_2 : w33.cell? ⟨gb159,2,none⟩ = some (.string a0_2) := (blk_cell BK159.out 2).trans rfl;have hfz34_0 := blk_frozen BK159.out 0;have hfz34_1 := blk_frozen BK159.out 1;have hfz34_2 := blk_frozen BK159.out 2)))
          go_ret
          exact ⟨by first | rfl | (simp [errW_none,errW_some] <;> rfl) | (simp [*,errW_none,errW_some] <;> rfl) | (rw [isEmpty_ne];first | done | rfl) | (rw [isEmpty_be];first | done | rfl),by repeat (first | (with_reducible first | exact HB.out | apply below_alloc | apply pw_below_drewN | apply below_drew1 | refine below_set ?_ GE159.out) | exact HB.out)⟩

/-! ### impl_xAtomOk: function 32 -/
def impl_xAtomOk.f (k : Nat) (a0 : ByteArray) : Option (Bool) := (impl_AtomOk.f k a0).bind fun t164 => (if t164 = true then (if a0.toList = ([99,97,115,101] : List UInt8) then (some false) else (if a0.toList = ([111,102] : List UInt8) then (some false) else (some (a0.toList != ([101,110,100] : List UInt8))))) else (some false))
theorem impl_xAtomOk.mono : ∀ a0 k,LeO (impl_xAtomOk.f k a0) (impl_xAtomOk.f (k + 1) a0) := by
  intro a0 k
  unfold impl_xAtomOk.f
  repeat' first
      | (with_reducible exact impl_AtomOk.mono _ _)
      | (with_reducible exact LeO.refl _)
      | (with_reducible exact LeO.none _)
      | (with_reducible refine LeO.ite ?_ ?_)
      | (with_reducible refine LeO.bind ?_ (fun _ => ?_))
      | exact impl_AtomOk.mono _ _
      | exact LeO.none _
      | refine LeO.ite ?_ ?_
      | refine LeO.bind ?_ (fun _ => ?_)
set_option maxHeartbeats 8000000 in
set_option maxRecDepth 100000 in
theorem impl_xAtomOk.calls (k : Nat) (a0 : ByteArray) (r : Bool) (w : World) (h : impl_xAtomOk.f k a0 = some r) :
    Calls Try.prog 32 #[.string a0] w fun e w' => e = .returned (.bool r) ∧ Drawn0 w w' := by
  have H : ((impl_AtomOk.f k a0).bind fun t164 => (if t164 = true then (if a0.toList = ([99,97,115,101] : List UInt8) then (some false) else (if a0.toList = ([111,102] : List UInt8) then (some false) else (some (a0.toList != ([101,110,100] : List UInt8))))) else (some false))) = some r := h
  clear h
  replace H := Option.bind_eq_some_iff.mp H
  obtain ⟨t164,A20,H⟩ := H
  replace H : (if t164 = true then (if a0.toList = ([99,97,115,101] : List UInt8) then (some false) else (if a0.toList = ([111,102] : List UInt8) then (some false) else (some (a0.toList != ([101,110,100] : List UInt8))))) else (some false)) = some r := H
  have A2 := Aside0.mk A20
  clear A20
  by_cases c3 : t164 = true
  · subst c3
    have H1 : (if a0.toList = ([99,97,115,101] : List UInt8) then (some false) else (if a0.toList = ([111,102] : List UInt8) then (some false) else (some (a0.toList != ([101,110,100] : List UInt8))))) = some r := by rw [if_pos rfl] at H;exact H
    clear H
    have H := H1
    clear H1
    by_cases c4 : a0.toList = ([99,97,115,101] : List UInt8)
    · rw [if_pos c4] at H
      have c4b0 : (a0.toList == ([99,97,115,101] : List UInt8)) = true := beq_iff_eq.mpr c4
      have c4b1 : (a0.toList != ([99,97,115,101] : List UInt8)) = false := bne_eq_false_iff_eq.mpr c4
      clear c4
      obtain rfl := Option.some.inj H
      go_enter Try.func32,Try.ntmps32
      go_wp2_with (first | ((with_reducible refine gate_callee (f := 6) rfl ?_);refine goesL_ (some 4) rfl rfl Try.func6 (by kernel_rfl) rfl #[.string a0] rfl (by (try simp only [List.map_toArray,List.map_cons,List.map_nil]);first | done | rfl | (simp only [List.length_drop,List.length_take];rfl)) ?_;(with_reducible refine (impl_AtomOk.calls k a0 true _ A2.out).mono ?_);rintro e w' ⟨rfl,⟨nd,rfl⟩⟩;refine ⟨_,rfl,?_⟩))
      go_ret
      exact ⟨by first | rfl | (simp;done) | (simp [*];done),by repeat (first | exact Drawn0.refl _ | apply Drawn0.step)⟩
    · rw [if_neg c4] at H
      have c4b0 : (a0.toList == ([99,97,115,101] : List UInt8)) = false := beq_eq_false_iff_ne.mpr c4
      have c4b1 : (a0.toList != ([99,97,115,101] : List UInt8)) = true := bne_iff_ne.mpr c4
      by_cases c5 : a0.toList = ([111,102] : List UInt8)
      · rw [if_pos c5] at H
        have c5b0 : (a0.toList == ([111,102] : List UInt8)) = true := beq_iff_eq.mpr c5
        have c5b1 : (a0.toList != ([111,102] : List UInt8)) = false := bne_eq_false_iff_eq.mpr c5
        clear c5
        obtain rfl := Option.some.inj H
        go_enter Try.func32,Try.ntmps32
        go_wp2_with (first | ((with_reducible refine gate_callee (f := 6) rfl ?_);refine goesL_ (some 4) rfl rfl Try.func6 (by kernel_rfl) rfl #[.string a0] rfl (by (try simp only [List.map_toArray,List.map_cons,List.map_nil]);first | done | rfl | (simp only [List.length_drop,List.length_take];rfl)) ?_;(with_reducible refine (impl_AtomOk.calls k a0 true _ A2.out).mono ?_);rintro e w' ⟨rfl,⟨nd,rfl⟩⟩;refine ⟨_,rfl,?_⟩))
        go_ret
        exact ⟨by first | rfl | (simp;done) | (simp [*];done),by repeat (first | exact Drawn0.refl _ | apply Drawn0.step)⟩
      · rw [if_neg c5] at H
        have c5b0 : (a0.toList == ([111,102] : List UInt8)) = false := beq_eq_false_iff_ne.mpr c5
        have c5b1 : (a0.toList != ([111,102] : List UInt8)) = true := bne_iff_ne.mpr c5
        obtain rfl := Option.some.inj H
        go_enter Try.func32,Try.ntmps32
        go_wp2_with (first | ((with_reducible refine gate_callee (f := 6) rfl ?_);refine goesL_ (some 4) rfl rfl Try.func6 (by kernel_rfl) rfl #[.string a0] rfl (by (try simp only [List.map_toArray,List.map_cons,List.map_nil]);first | done | rfl | (simp only [List.length_drop,List.length_take];rfl)) ?_;(with_reducible refine (impl_AtomOk.calls k a0 true _ A2.out).mono ?_);rintro e w' ⟨rfl,⟨nd,rfl⟩⟩;refine ⟨_,rfl,?_⟩))
        go_ret
        exact ⟨by first | rfl | (simp;done) | (simp [*];done),by repeat (first | exact Drawn0.refl _ | apply Drawn0.step)⟩
  · replace c3 := Bool.eq_false_iff.mpr c3
    subst c3
    have H1 : (some false) = some r := by rw [if_neg (show ¬ (false = true) by decide)] at H;exact H
    clear H
    have H := H1
    clear H1
    obtain rfl := Option.some.inj H
    go_enter Try.func32,Try.ntmps32
    go_wp2_with (first | ((with_reducible refine gate_callee (f := 6) rfl ?_);refine goesL_ (some 4) rfl rfl Try.func6 (by kernel_rfl) rfl #[.string a0] rfl (by (try simp only [List.map_toArray,List.map_cons,List.map_nil]);first | done | rfl | (simp only [List.length_drop,List.length_take];rfl)) ?_;(with_reducible refine (impl_AtomOk.calls k a0 false _ A2.out).mono ?_);rintro e w' ⟨rfl,⟨nd,rfl⟩⟩;refine ⟨_,rfl,?_⟩))
    go_ret
    exact ⟨by first | rfl | (simp;done) | (simp [*];done),by repeat (first | exact Drawn0.refl _ | apply Drawn0.step)⟩

/-! ### impl_isOp: function 33 -/
def impl_isOp.f (a0 : ByteArray) : Option (Bool) := if a0.toList = ([43] : List UInt8) then (some true) else (if a0.toList = ([45] : List UInt8) then (some true) else (if a0.toList = ([42] : List UInt8) then (some true) else (if a0.toList = ([61,61] : List UInt8) then (some true) else (if a0.toList = ([60] : List UInt8) then (some true) else (some false)))))
set_option maxHeartbeats 8000000 in
set_option maxRecDepth 100000 in
theorem impl_isOp.calls (a0 : ByteArray) (r : Bool) (w : World) (h : impl_isOp.f a0 = some r) :
    Calls Try.prog 33 #[.string a0] w fun e w' => e = .returned (.bool r) ∧ Drawn0 w w' := by
  have H : (if a0.toList = ([43] : List UInt8) then (some true) else (if a0.toList = ([45] : List UInt8) then (some true) else (if a0.toList = ([42] : List UInt8) then (some true) else (if a0.toList = ([61,61] : List UInt8) then (some true) else (if a0.toList = ([60] : List UInt8) then (some true) else (some false)))))) = some r := h
  clear h
  by_cases c2 : a0.toList = ([43] : List UInt8)
  · rw [if_pos c2] at H
    have c2b0 : (a0.toList == ([43] : List UInt8)) = true := beq_iff_eq.mpr c2
    have c2b1 : (a0.toList != ([43] : List UInt8)) = false := bne_eq_false_iff_eq.mpr c2
    clear c2
    obtain rfl := Option.some.inj H
    go_enter Try.func33,Try.ntmps33
    go_wp2
    go_ret
    exact ⟨by first | rfl | (simp;done) | (simp [*];done),by repeat (first | exact Drawn0.refl _ | apply Drawn0.step)⟩
  · rw [if_neg c2] at H
    have c2b0 : (a0.toList == ([43] : List UInt8)) = false := beq_eq_false_iff_ne.mpr c2
    have c2b1 : (a0.toList != ([43] : List UInt8)) = true := bne_iff_ne.mpr c2
    by_cases c3 : a0.toList = ([45] : List UInt8)
    · rw [if_pos c3] at H
      have c3b0 : (a0.toList == ([45] : List UInt8)) = true := beq_iff_eq.mpr c3
      have c3b1 : (a0.toList != ([45] : List UInt8)) = false := bne_eq_false_iff_eq.mpr c3
      clear c3
      obtain rfl := Option.some.inj H
      go_enter Try.func33,Try.ntmps33
      go_wp2
      go_ret
      exact ⟨by first | rfl | (simp;done) | (simp [*];done),by repeat (first | exact Drawn0.refl _ | apply Drawn0.step)⟩
    · rw [if_neg c3] at H
      have c3b0 : (a0.toList == ([45] : List UInt8)) = false := beq_eq_false_iff_ne.mpr c3
      have c3b1 : (a0.toList != ([45] : List UInt8)) = true := bne_iff_ne.mpr c3
      by_cases c4 : a0.toList = ([42] : List UInt8)
      · rw [if_pos c4] at H
        have c4b0 : (a0.toList == ([42] : List UInt8)) = true := beq_iff_eq.mpr c4
        have c4b1 : (a0.toList != ([42] : List UInt8)) = false := bne_eq_false_iff_eq.mpr c4
        clear c4
        obtain rfl := Option.some.inj H
        go_enter Try.func33,Try.ntmps33
        go_wp2
        go_ret
        exact ⟨by first | rfl | (simp;done) | (simp [*];done),by repeat (first | exact Drawn0.refl _ | apply Drawn0.step)⟩
      · rw [if_neg c4] at H
        have c4b0 : (a0.toList == ([42] : List UInt8)) = false := beq_eq_false_iff_ne.mpr c4
        have c4b1 : (a0.toList != ([42] : List UInt8)) = true := bne_iff_ne.mpr c4
        by_cases c5 : a0.toList = ([61,61] : List UInt8)
        · rw [if_pos c5] at H
          have c5b0 : (a0.toList == ([61,61] : List UInt8)) = true := beq_iff_eq.mpr c5
          have c5b1 : (a0.toList != ([61,61] : List UInt8)) = false := bne_eq_false_iff_eq.mpr c5
          clear c5
          obtain rfl := Option.some.inj H
          go_enter Try.func33,Try.ntmps33
          go_wp2
          go_ret
          exact ⟨by first | rfl | (simp;done) | (simp [*];done),by repeat (first | exact Drawn0.refl _ | apply Drawn0.step)⟩
        · rw [if_neg c5] at H
          have c5b0 : (a0.toList == ([61,61] : List UInt8)) = false := beq_eq_false_iff_ne.mpr c5
          have c5b1 : (a0.toList != ([61,61] : List UInt8)) = true := bne_iff_ne.mpr c5
          by_cases c6 : a0.toList = ([60] : List UInt8)
          · rw [if_pos c6] at H
            have c6b0 : (a0.toList == ([60] : List UInt8)) = true := beq_iff_eq.mpr c6
            have c6b1 : (a0.toList != ([60] : List UInt8)) = false := bne_eq_false_iff_eq.mpr c6
            clear c6
            obtain rfl := Option.some.inj H
            go_enter Try.func33,Try.ntmps33
            go_wp2
            go_ret
            exact ⟨by first | rfl | (simp;done) | (simp [*];done),by repeat (first | exact Drawn0.refl _ | apply Drawn0.step)⟩
          · rw [if_neg c6] at H
            have c6b0 : (a0.toList == ([60] : List UInt8)) = false := beq_eq_false_iff_ne.mpr c6
            have c6b1 : (a0.toList != ([60] : List UInt8)) = true := bne_iff_ne.mpr c6
            obtain rfl := Option.some.inj H
            go_enter Try.func33,Try.ntmps33
            go_wp2
            go_ret
            exact ⟨by first | rfl | (simp;done) | (simp [*];done),by repeat (first | exact Drawn0.refl _ | apply Drawn0.step)⟩

end Go.Proofs.Ytboiagjicjgceaa.QFnAtoms
