-- Written by a program of this workplace (print2.py) for this claim, over the print's words.
import Derived.Test.YtohafgndnpjfbaaQFnReadTermsx0
import Derived.Test.YtohafgndnpjfbaaQFnReadTermsx4
namespace Go.Proofs.Ytohafgndnpjfbaa.QFnReadTerms
open Go.RowKit Go.Proofs.YtohafgndnpjfbaaW.PrintWords Go.Proofs.YtohafgndnpjfbaaW.PrintLast Go.Proofs.YtohafgndnpjfbaaW.PrintMore
attribute [local go_sem] max2_int min2_int max_two min_two max_three min_three max_four min_four   -- for this text's walks alone
set_option linter.unusedVariables false
set_option linter.unusedSimpArgs false

/-! ### impl_GetNum: function 38 -/
mutual
def impl_GetNum.l0 : Nat → List Int → Int → Int → Int → Option (Int × Int × Bool)
 | 0,_,_,_,_ => none
 | k + 1,x0,x1,x7,x8 => if x8 < 6 then (impl_GetNum.j1 k x0 x1 x7 x8 (decide (x1 < (x0.length : Int)))) else (impl_GetNum.j1 k x0 x1 x7 x8 false)
def impl_GetNum.j1 : Nat → List Int → Int → Int → Int → Bool → Option (Int × Int × Bool)
 | 0,_,_,_,_,_ => none
 | k + 1,x0,x1,x7,x8,x24 => if x24 = true then (if 0 ≤ x1 then (if x1 < (x0.length : Int) then (if 0 ≤ (IntKind.u64.wrap (wrap64 (7 * x8))) then (if (wrap64 (rd x0 x1)) ≥ 128 then (impl_GetNum.l0 k x0 (wrap64 (x1 + 1)) (Go.bits .or .i64 x7 (shl .i64 (Go.bits .and .i64 (wrap64 (rd x0 x1)) 127) (IntKind.u64.wrap (wrap64 (7 * x8))))) (wrap64 (x8 + 1))) else (if (Int.tmod (Go.bits .or .i64 x7 (shl .i64 (Go.bits .and .i64 (wrap64 (rd x0 x1)) 127) (IntKind.u64.wrap (wrap64 (7 * x8))))) 2) = 1 then (if (wrap64 (rd x0 x1)) = 0 then (if x8 > 0 then (some (0,0,false)) else ((impl_inRange.f (wrap64 (Int.tdiv (wrap64 (-(wrap64 ((Go.bits .or .i64 x7 (shl .i64 (Go.bits .and .i64 (wrap64 (rd x0 x1)) 127) (IntKind.u64.wrap (wrap64 (7 * x8))))) + 1)))) 2)) (-1000000000000) 1000000000000).bind fun t280 => (if t280 = true then (some (wrap64 (Int.tdiv (wrap64 (-(wrap64 ((Go.bits .or .i64 x7 (shl .i64 (Go.bits .and .i64 (wrap64 (rd x0 x1)) 127) (IntKind.u64.wrap (wrap64 (7 * x8))))) + 1)))) 2),wrap64 (x1 + 1),true)) else (some (0,0,false))))) else ((impl_inRange.f (wrap64 (Int.tdiv (wrap64 (-(wrap64 ((Go.bits .or .i64 x7 (shl .i64 (Go.bits .and .i64 (wrap64 (rd x0 x1)) 127) (IntKind.u64.wrap (wrap64 (7 * x8))))) + 1)))) 2)) (-1000000000000) 1000000000000).bind fun t281 => (if t281 = true then (some (wrap64 (Int.tdiv (wrap64 (-(wrap64 ((Go.bits .or .i64 x7 (shl .i64 (Go.bits .and .i64 (wrap64 (rd x0 x1)) 127) (IntKind.u64.wrap (wrap64 (7 * x8))))) + 1)))) 2),wrap64 (x1 + 1),true)) else (some (0,0,false))))) else (if (wrap64 (rd x0 x1)) = 0 then (if x8 > 0 then (some (0,0,false)) else ((impl_inRange.f (wrap64 (Int.tdiv (Go.bits .or .i64 x7 (shl .i64 (Go.bits .and .i64 (wrap64 (rd x0 x1)) 127) (IntKind.u64.wrap (wrap64 (7 * x8))))) 2)) (-1000000000000) 1000000000000).bind fun t282 => (if t282 = true then (some (wrap64 (Int.tdiv (Go.bits .or .i64 x7 (shl .i64 (Go.bits .and .i64 (wrap64 (rd x0 x1)) 127) (IntKind.u64.wrap (wrap64 (7 * x8))))) 2),wrap64 (x1 + 1),true)) else (some (0,0,false))))) else ((impl_inRange.f (wrap64 (Int.tdiv (Go.bits .or .i64 x7 (shl .i64 (Go.bits .and .i64 (wrap64 (rd x0 x1)) 127) (IntKind.u64.wrap (wrap64 (7 * x8))))) 2)) (-1000000000000) 1000000000000).bind fun t283 => (if t283 = true then (some (wrap64 (Int.tdiv (Go.bits .or .i64 x7 (shl .i64 (Go.bits .and .i64 (wrap64 (rd x0 x1)) 127) (IntKind.u64.wrap (wrap64 (7 * x8))))) 2),wrap64 (x1 + 1),true)) else (some (0,0,false))))))) else (none)) else (none)) else (none)) else (some (0,0,false))
end
def impl_GetNum.f (k : Nat) (l0 : List Int) (a1 : Int) : Option (Int × Int × Bool) := (impl_inRange.f a1 0 (wrap64 ((l0.length : Int) - 1))).bind fun t278 => (if t278 = true then (impl_GetNum.l0 k l0 a1 0 0) else (some (0,0,false)))
theorem impl_GetNum.mono_l : ∀ k,(∀ y0 y1 y2 y3,LeO (impl_GetNum.l0 k y0 y1 y2 y3) (impl_GetNum.l0 (k + 1) y0 y1 y2 y3)) ∧ (∀ y0 y1 y2 y3 y4,LeO (impl_GetNum.j1 k y0 y1 y2 y3 y4) (impl_GetNum.j1 (k + 1) y0 y1 y2 y3 y4))
 | 0 => ⟨fun _ _ _ _ r h => by simp [impl_GetNum.l0] at h,fun _ _ _ _ _ r h => by simp [impl_GetNum.j1] at h⟩
 | k + 1 => by
  obtain ⟨ih0,ih1⟩ := impl_GetNum.mono_l k
  refine ⟨?_,?_⟩
  ·intro y0 y1 y2 y3
   unfold impl_GetNum.l0
   repeat' first
   | (with_reducible exact ih0 _ _ _ _)
   | (with_reducible exact ih1 _ _ _ _ _)
   | (with_reducible exact LeO.refl _)
   | (with_reducible exact LeO.none _)
   | (with_reducible refine LeO.ite ?_ ?_)
   | (with_reducible refine LeO.bind ?_ (fun _ => ?_))
   | exact ih0 _ _ _ _
   | exact ih1 _ _ _ _ _
   | exact LeO.none _
   | refine LeO.ite ?_ ?_
   | refine LeO.bind ?_ (fun _ => ?_)
  ·intro y0 y1 y2 y3 y4
   unfold impl_GetNum.j1
   repeat' first
   | (with_reducible exact ih0 _ _ _ _)
   | (with_reducible exact ih1 _ _ _ _ _)
   | (with_reducible exact LeO.refl _)
   | (with_reducible exact LeO.none _)
   | (with_reducible refine LeO.ite ?_ ?_)
   | (with_reducible refine LeO.bind ?_ (fun _ => ?_))
   | exact ih0 _ _ _ _
   | exact ih1 _ _ _ _ _
   | exact LeO.none _
   | refine LeO.ite ?_ ?_
   | refine LeO.bind ?_ (fun _ => ?_)
theorem impl_GetNum.mono : ∀ a0 a1 k,LeO (impl_GetNum.f k a0 a1) (impl_GetNum.f (k + 1) a0 a1) := by
 intro a0 a1 k
 obtain ⟨ih0,ih1⟩ := impl_GetNum.mono_l k
 unfold impl_GetNum.f
 repeat' first
   | (with_reducible exact ih0 _ _ _ _)
   | (with_reducible exact ih1 _ _ _ _ _)
   | (with_reducible exact LeO.refl _)
   | (with_reducible exact LeO.none _)
   | (with_reducible refine LeO.ite ?_ ?_)
   | (with_reducible refine LeO.bind ?_ (fun _ => ?_))
   | exact ih0 _ _ _ _
   | exact ih1 _ _ _ _ _
   | exact LeO.none _
   | refine LeO.ite ?_ ?_
   | refine LeO.bind ?_ (fun _ => ?_)
set_option maxHeartbeats 8000000 in
set_option maxRecDepth 100000 in
theorem impl_GetNum.calls (k : Nat) (A0 : Option Addr) (c0 : Nat) (l0 : List Int) (a1 : Int) (r1 : Int) (r2 : Int) (r3 : Bool) (w : World) (hr0 : Kd.C (Kd.int .u8) w A0 l0.length l0) (hc0 : l0.length ≤ c0) (h : impl_GetNum.f k l0 a1 = some (r1,r2,r3)) :
  Calls Try.prog 38 #[.slice A0 l0.length c0,.int .i64 a1] w fun e w' => e = .returned (.tuple #[.int .i64 r1,.int .i64 r2,.bool r3]) ∧ Drawn0 w w' := by
 have HR0 := Aside0.mk hr0
 have HC0 := Aside0.mk hc0
 clear hr0 hc0
 have H : ((impl_inRange.f a1 0 (wrap64 ((l0.length : Int) - 1))).bind fun t278 => (if t278 = true then (impl_GetNum.l0 k l0 a1 0 0) else (some (0,0,false)))) = some (r1,r2,r3) := h
 clear h
 replace H := Option.bind_eq_some_iff.mp H
 obtain ⟨t278,A30,H⟩ := H
 replace H : (if t278 = true then (impl_GetNum.l0 k l0 a1 0 0) else (some (0,0,false))) = some (r1,r2,r3) := H
 have A3 := Aside0.mk A30
 clear A30
 by_cases c4 : t278 = true
 ·subst c4
  have H1 : (impl_GetNum.l0 k l0 a1 0 0) = some (r1,r2,r3) := by rw [if_pos rfl] at H;exact H
  clear H
  have H := H1
  clear H1
  have H' := Aside0.mk H
  clear H
  go_enter Try.func38,Try.ntmps38
  go_wp2_with (first | ((with_reducible refine gate_callee (f := 40) rfl ?_);refine goesL_ (some 15) rfl rfl Try.func40 (by kernel_rfl) rfl #[.int .i64 a1,.int .i64 0,.int .i64 (wrap64 ((l0.length : Int) - 1))] rfl (by (try simp only [List.map_toArray,List.map_cons,List.map_nil]);first | done | rfl | (simp only [List.length_drop,List.length_take];rfl)) ?_;(with_reducible refine (impl_inRange.calls a1 0 (wrap64 ((l0.length : Int) - 1)) true _ A3.out).mono ?_);rintro e w' ⟨rfl,⟨nd,rfl⟩⟩;refine ⟨_,rfl,?_⟩))
  go_loopg [1,7,8] k (fun kq v1 v7 v8 w' => ∃ (x1_1 : Int) (x7_1 : Int) (x8_1 : Int),v1 = .int .i64 x1_1 ∧ v7 = .int .i64 x7_1 ∧ v8 = .int .i64 x8_1 ∧ Aside0 (impl_GetNum.l0 kq l0 x1_1 x7_1 x8_1 = some (r1,r2,r3)) ∧ Aside0 (kq ≤ k) ∧ Drawn0 w w')
  case atStart => exact ⟨(a1),(0),(0),(by first | rfl | (simp;done) | (simp [*];done)),(by first | rfl | (simp;done) | (simp [*];done)),(by first | rfl | (simp;done) | (simp [*];done)),H',⟨Nat.le_refl _⟩,by repeat (first | exact Drawn0.refl _ | apply Drawn0.step)⟩
  case round =>
   clear H'
   try clear p2
   try clear c3
   try clear c4
   obtain ⟨x1_1,x7_1,x8_1,rfl,rfl,rfl,HA,HK1,⟨m1,rfl⟩⟩ := hrel
   cases gk with
   | zero => exact absurd HA.out (by simp [impl_GetNum.l0])
   | succ k1 =>
    have H := HA.out
    clear HA
    simp only [impl_GetNum.l0] at H
    have HC5 := Aside0.mk H
    clear H
    go_upto_region 5 with (fail)
    go_cut [24] (fun v24 wc => ∃ (kq : Nat) (x24_4 : Bool),v24 = .bool x24_4 ∧ Aside0 (impl_GetNum.j1 kq l0 x1_1 x7_1 x8_1 x24_4 = some (r1,r2,r3)) ∧ Aside0 (kq ≤ k1) ∧ Drawn0 w wc)
    case first =>
     have H := HC5.out
     clear HC5
     by_cases c6 : x8_1 < 6
     ·rw [if_pos c6] at H
      have c6b0 : decide (x8_1 < 6) = true := decide_eq_true c6
      clear c6
      (first | rw [c6b0] | (simp only [i64_w,i32_w];rw [c6b0]) | (simp only [c6b2,Bool.not_true,Bool.not_false]) | skip)
      have H' := Aside0.mk H
      clear H
      go_wp2
      go_meet
      case rel => exact ⟨_,(decide (x1_1 < (l0.length : Int))),(by first | rfl | (simp;done) | (simp [*];done)),H',⟨by have := HK1.out;first | omega | exact Nat.le_refl _⟩,by repeat (first | exact Drawn0.refl _ | apply Drawn0.step)⟩
     ·rw [if_neg c6] at H
      have c6b0 : decide (x8_1 < 6) = false := decide_eq_false c6
      clear c6
      (first | rw [c6b0] | (simp only [i64_w,i32_w];rw [c6b0]) | (simp only [c6b2,Bool.not_true,Bool.not_false]) | skip)
      have H' := Aside0.mk H
      clear H
      go_wp2
      go_meet
      case rel => exact ⟨_,(false),(by first | rfl | (simp;done) | (simp [*];done)),H',⟨by have := HK1.out;first | omega | exact Nat.le_refl _⟩,by repeat (first | exact Drawn0.refl _ | apply Drawn0.step)⟩
    case rest =>
     clear HC5
     try clear p2
     try clear c3
     try clear c4
     try clear c6
     try clear c6b0
     try clear c6b2
     try clear p6
     try clear p2
     obtain ⟨kq,x24_4,rfl,HA,HJ4,⟨mc4,rfl⟩⟩ := hcut
     cases kq with
     | zero => exact absurd HA.out (by simp [impl_GetNum.j1])
     | succ kj4 =>
      have H := HA.out
      clear HA
      simp only [impl_GetNum.j1] at H
      by_cases c7 : x24_4 = true
      ·subst c7
       have H1 : (if 0 ≤ x1_1 then (if x1_1 < (l0.length : Int) then (if 0 ≤ (IntKind.u64.wrap (wrap64 (7 * x8_1))) then (if (wrap64 (rd l0 x1_1)) ≥ 128 then (impl_GetNum.l0 kj4 l0 (wrap64 (x1_1 + 1)) (Go.bits .or .i64 x7_1 (shl .i64 (Go.bits .and .i64 (wrap64 (rd l0 x1_1)) 127) (IntKind.u64.wrap (wrap64 (7 * x8_1))))) (wrap64 (x8_1 + 1))) else (if (Int.tmod (Go.bits .or .i64 x7_1 (shl .i64 (Go.bits .and .i64 (wrap64 (rd l0 x1_1)) 127) (IntKind.u64.wrap (wrap64 (7 * x8_1))))) 2) = 1 then (if (wrap64 (rd l0 x1_1)) = 0 then (if x8_1 > 0 then (some (0,0,false)) else ((impl_inRange.f (wrap64 (Int.tdiv (wrap64 (-(wrap64 ((Go.bits .or .i64 x7_1 (shl .i64 (Go.bits .and .i64 (wrap64 (rd l0 x1_1)) 127) (IntKind.u64.wrap (wrap64 (7 * x8_1))))) + 1)))) 2)) (-1000000000000) 1000000000000).bind fun t280 => (if t280 = true then (some (wrap64 (Int.tdiv (wrap64 (-(wrap64 ((Go.bits .or .i64 x7_1 (shl .i64 (Go.bits .and .i64 (wrap64 (rd l0 x1_1)) 127) (IntKind.u64.wrap (wrap64 (7 * x8_1))))) + 1)))) 2),wrap64 (x1_1 + 1),true)) else (some (0,0,false))))) else ((impl_inRange.f (wrap64 (Int.tdiv (wrap64 (-(wrap64 ((Go.bits .or .i64 x7_1 (shl .i64 (Go.bits .and .i64 (wrap64 (rd l0 x1_1)) 127) (IntKind.u64.wrap (wrap64 (7 * x8_1))))) + 1)))) 2)) (-1000000000000) 1000000000000).bind fun t281 => (if t281 = true then (some (wrap64 (Int.tdiv (wrap64 (-(wrap64 ((Go.bits .or .i64 x7_1 (shl .i64 (Go.bits .and .i64 (wrap64 (rd l0 x1_1)) 127) (IntKind.u64.wrap (wrap64 (7 * x8_1))))) + 1)))) 2),wrap64 (x1_1 + 1),true)) else (some (0,0,false))))) else (if (wrap64 (rd l0 x1_1)) = 0 then (if x8_1 > 0 then (some (0,0,false)) else ((impl_inRange.f (wrap64 (Int.tdiv (Go.bits .or .i64 x7_1 (shl .i64 (Go.bits .and .i64 (wrap64 (rd l0 x1_1)) 127) (IntKind.u64.wrap (wrap64 (7 * x8_1))))) 2)) (-1000000000000) 1000000000000).bind fun t282 => (if t282 = true then (some (wrap64 (Int.tdiv (Go.bits .or .i64 x7_1 (shl .i64 (Go.bits .and .i64 (wrap64 (rd l0 x1_1)) 127) (IntKind.u64.wrap (wrap64 (7 * x8_1))))) 2),wrap64 (x1_1 + 1),true)) else (some (0,0,false))))) else ((impl_inRange.f (wrap64 (Int.tdiv (Go.bits .or .i64 x7_1 (shl .i64 (Go.bits .and .i64 (wrap64 (rd l0 x1_1)) 127) (IntKind.u64.wrap (wrap64 (7 * x8_1))))) 2)) (-1000000000000) 1000000000000).bind fun t283 => (if t283 = true then (some (wrap64 (Int.tdiv (Go.bits .or .i64 x7_1 (shl .i64 (Go.bits .and .i64 (wrap64 (rd l0 x1_1)) 127) (IntKind.u64.wrap (wrap64 (7 * x8_1))))) 2),wrap64 (x1_1 + 1),true)) else (some (0,0,false))))))) else (none)) else (none)) else (none)) = some (r1,r2,r3) := by rw [if_pos rfl] at H;exact H
       clear H
       have H := H1
       clear H1
       by_cases c8 : 0 ≤ x1_1
       ·rw [if_pos c8] at H
        have c8b0 : decide (0 ≤ x1_1) = true := decide_eq_true c8
        clear c8
        by_cases c9 : x1_1 < (l0.length : Int)
        ·rw [if_pos c9] at H
         have c9b0 : decide (x1_1 < (l0.length : Int)) = true := decide_eq_true c9
         clear c9
         obtain ⟨ji10,hji10⟩ : ∃ j_ : Int,(IntKind.u64.wrap (wrap64 (7 * x8_1))) = j_ := ⟨_,rfl⟩
         replace H : (if 0 ≤ (ji10) then (if (wrap64 (rd l0 x1_1)) ≥ 128 then (impl_GetNum.l0 kj4 l0 (wrap64 (x1_1 + 1)) (Go.bits .or .i64 x7_1 (shl .i64 (Go.bits .and .i64 (wrap64 (rd l0 x1_1)) 127) (ji10))) (wrap64 (x8_1 + 1))) else (if (Int.tmod (Go.bits .or .i64 x7_1 (shl .i64 (Go.bits .and .i64 (wrap64 (rd l0 x1_1)) 127) (ji10))) 2) = 1 then (if (wrap64 (rd l0 x1_1)) = 0 then (if x8_1 > 0 then (some (0,0,false)) else ((impl_inRange.f (wrap64 (Int.tdiv (wrap64 (-(wrap64 ((Go.bits .or .i64 x7_1 (shl .i64 (Go.bits .and .i64 (wrap64 (rd l0 x1_1)) 127) (ji10))) + 1)))) 2)) (-1000000000000) 1000000000000).bind fun t280 => (if t280 = true then (some (wrap64 (Int.tdiv (wrap64 (-(wrap64 ((Go.bits .or .i64 x7_1 (shl .i64 (Go.bits .and .i64 (wrap64 (rd l0 x1_1)) 127) (ji10))) + 1)))) 2),wrap64 (x1_1 + 1),true)) else (some (0,0,false))))) else ((impl_inRange.f (wrap64 (Int.tdiv (wrap64 (-(wrap64 ((Go.bits .or .i64 x7_1 (shl .i64 (Go.bits .and .i64 (wrap64 (rd l0 x1_1)) 127) (ji10))) + 1)))) 2)) (-1000000000000) 1000000000000).bind fun t281 => (if t281 = true then (some (wrap64 (Int.tdiv (wrap64 (-(wrap64 ((Go.bits .or .i64 x7_1 (shl .i64 (Go.bits .and .i64 (wrap64 (rd l0 x1_1)) 127) (ji10))) + 1)))) 2),wrap64 (x1_1 + 1),true)) else (some (0,0,false))))) else (if (wrap64 (rd l0 x1_1)) = 0 then (if x8_1 > 0 then (some (0,0,false)) else ((impl_inRange.f (wrap64 (Int.tdiv (Go.bits .or .i64 x7_1 (shl .i64 (Go.bits .and .i64 (wrap64 (rd l0 x1_1)) 127) (ji10))) 2)) (-1000000000000) 1000000000000).bind fun t282 => (if t282 = true then (some (wrap64 (Int.tdiv (Go.bits .or .i64 x7_1 (shl .i64 (Go.bits .and .i64 (wrap64 (rd l0 x1_1)) 127) (ji10))) 2),wrap64 (x1_1 + 1),true)) else (some (0,0,false))))) else ((impl_inRange.f (wrap64 (Int.tdiv (Go.bits .or .i64 x7_1 (shl .i64 (Go.bits .and .i64 (wrap64 (rd l0 x1_1)) 127) (ji10))) 2)) (-1000000000000) 1000000000000).bind fun t283 => (if t283 = true then (some (wrap64 (Int.tdiv (Go.bits .or .i64 x7_1 (shl .i64 (Go.bits .and .i64 (wrap64 (rd l0 x1_1)) 127) (ji10))) 2),wrap64 (x1_1 + 1),true)) else (some (0,0,false))))))) else (none)) = some (r1,r2,r3) := by first | (rw [hji10] at H;exact H) | (simp only [hji10] at H ⊢;exact H)
         by_cases c11 : 0 ≤ (ji10)
         ·rw [if_pos c11] at H
          have c11b0 := eq_true c11
          have c11b1 : decide (0 ≤ (ji10)) = true := decide_eq_true c11
          clear c11
          obtain ⟨ji12,hji12⟩ : ∃ j_ : Int,(shl .i64 (Go.bits .and .i64 (wrap64 (rd l0 x1_1)) 127) (ji10)) = j_ := ⟨_,rfl⟩
          replace H : (if (wrap64 (rd l0 x1_1)) ≥ 128 then (impl_GetNum.l0 kj4 l0 (wrap64 (x1_1 + 1)) (Go.bits .or .i64 x7_1 (ji12)) (wrap64 (x8_1 + 1))) else (if (Int.tmod (Go.bits .or .i64 x7_1 (ji12)) 2) = 1 then (if (wrap64 (rd l0 x1_1)) = 0 then (if x8_1 > 0 then (some (0,0,false)) else ((impl_inRange.f (wrap64 (Int.tdiv (wrap64 (-(wrap64 ((Go.bits .or .i64 x7_1 (ji12)) + 1)))) 2)) (-1000000000000) 1000000000000).bind fun t280 => (if t280 = true then (some (wrap64 (Int.tdiv (wrap64 (-(wrap64 ((Go.bits .or .i64 x7_1 (ji12)) + 1)))) 2),wrap64 (x1_1 + 1),true)) else (some (0,0,false))))) else ((impl_inRange.f (wrap64 (Int.tdiv (wrap64 (-(wrap64 ((Go.bits .or .i64 x7_1 (ji12)) + 1)))) 2)) (-1000000000000) 1000000000000).bind fun t281 => (if t281 = true then (some (wrap64 (Int.tdiv (wrap64 (-(wrap64 ((Go.bits .or .i64 x7_1 (ji12)) + 1)))) 2),wrap64 (x1_1 + 1),true)) else (some (0,0,false))))) else (if (wrap64 (rd l0 x1_1)) = 0 then (if x8_1 > 0 then (some (0,0,false)) else ((impl_inRange.f (wrap64 (Int.tdiv (Go.bits .or .i64 x7_1 (ji12)) 2)) (-1000000000000) 1000000000000).bind fun t282 => (if t282 = true then (some (wrap64 (Int.tdiv (Go.bits .or .i64 x7_1 (ji12)) 2),wrap64 (x1_1 + 1),true)) else (some (0,0,false))))) else ((impl_inRange.f (wrap64 (Int.tdiv (Go.bits .or .i64 x7_1 (ji12)) 2)) (-1000000000000) 1000000000000).bind fun t283 => (if t283 = true then (some (wrap64 (Int.tdiv (Go.bits .or .i64 x7_1 (ji12)) 2),wrap64 (x1_1 + 1),true)) else (some (0,0,false))))))) = some (r1,r2,r3) := by first | (rw [hji12] at H;exact H) | (simp only [hji12] at H ⊢;exact H)
          have hji12_ : (IntKind.i64.wrap ((Go.bits .and .i64 (wrap64 (rd l0 x1_1)) 127) * 2 ^ min (ji10).toNat 64)) = ji12 := hji12
          have hji12z : (ji10) ≤ 64 → (IntKind.i64.wrap ((Go.bits .and .i64 (wrap64 (rd l0 x1_1)) 127) * 2 ^ (ji10).toNat)) = ji12 := shl_small hji12
          have hji12y : (wrap64 ((Go.bits .and .i64 (wrap64 (rd l0 x1_1)) 127) * 2 ^ min (ji10).toNat 64)) = ji12 := (i64_w _).symm.trans hji12_
          have hji12x : (ji10) ≤ 64 → (wrap64 ((Go.bits .and .i64 (wrap64 (rd l0 x1_1)) 127) * 2 ^ (ji10).toNat)) = ji12 := fun h_ => (i64_w _).symm.trans (hji12z h_)
          by_cases c13 : (wrap64 (rd l0 x1_1)) ≥ 128
          ·rw [if_pos c13] at H
           have c13b0 : decide (128 ≤ (wrap64 (rd l0 x1_1))) = true := decide_eq_true c13
           clear c13
           have H' := Aside0.mk H
           clear H
           have p279 : 0 ≤ (x1_1 : Int) := of_decide_eq_true (by first | (with_reducible assumption) | assumption)
           have q279 : x1_1 < (l0.length : Int) := of_decide_eq_true (by first | (with_reducible assumption) | assumption)
           obtain ⟨ad279,e279,hx279_0⟩ := Kd.at_int HR0.out x1_1 p279 q279
           cases e279
           replace p279 := eq_true p279
           replace q279 := eq_true q279
           go_wp2
           go_roundg kj4
           case measure => have := HK1.out;have := HJ4.out;omega
           case rel => exact ⟨(wrap64 (x1_1 + 1)),(Go.bits .or .i64 x7_1 (ji12)),(wrap64 (x8_1 + 1)),(by first | rfl | (simp;done) | (simp [*];done)),(by first | rfl | (simp;done) | (simp only [← hji12] <;> (first | rfl | simp)) | (simp [*];done)),(by first | rfl | (simp;done) | (simp [*];done)),H',⟨by have := HK1.out;have := HJ4.out;omega⟩,by repeat (first | exact Drawn0.refl _ | apply Drawn0.step)⟩
          ·rw [if_neg c13] at H
           have c13b0 : decide (128 ≤ (wrap64 (rd l0 x1_1))) = false := decide_eq_false c13
           clear c13
           by_cases c14 : (Int.tmod (Go.bits .or .i64 x7_1 (ji12)) 2) = 1
           ·rw [if_pos c14] at H
            have c14b0 : ((Int.tmod (Go.bits .or .i64 x7_1 (ji12)) 2) == 1) = true := beq_iff_eq.mpr c14
            have c14b1 : ((Int.tmod (Go.bits .or .i64 x7_1 (ji12)) 2) != 1) = false := bne_eq_false_iff_eq.mpr c14
            clear c14
            by_cases c15 : (wrap64 (rd l0 x1_1)) = 0
            ·rw [if_pos c15] at H
             have c15b0 : ((wrap64 (rd l0 x1_1)) == 0) = true := beq_iff_eq.mpr c15
             have c15b1 : ((wrap64 (rd l0 x1_1)) != 0) = false := bne_eq_false_iff_eq.mpr c15
             clear c15
             by_cases c16 : x8_1 > 0
             ·rw [if_pos c16] at H
              have c16b0 : decide (0 < x8_1) = true := decide_eq_true c16
              clear c16
              simp only [Option.some.injEq,Prod.mk.injEq] at H
              obtain ⟨rfl,rfl,rfl⟩ := H
              have p279 : 0 ≤ (x1_1 : Int) := of_decide_eq_true (by first | (with_reducible assumption) | assumption)
              have q279 : x1_1 < (l0.length : Int) := of_decide_eq_true (by first | (with_reducible assumption) | assumption)
              obtain ⟨ad279,e279,hx279_0⟩ := Kd.at_int HR0.out x1_1 p279 q279
              cases e279
              replace p279 := eq_true p279
              replace q279 := eq_true q279
              go_wp2
              go_ret3
              exact ⟨by first | rfl | (simp;done) | (simp only [← hji10,← hji12] <;> (first | rfl | simp)) | (simp [*];done),by repeat (first | exact Drawn0.refl _ | apply Drawn0.step)⟩
             ·rw [if_neg c16] at H
              have c16b0 : decide (0 < x8_1) = false := decide_eq_false c16
              clear c16
              replace H := Option.bind_eq_some_iff.mp H
              obtain ⟨t280,A170,H⟩ := H
              replace H : (if t280 = true then (some (wrap64 (Int.tdiv (wrap64 (-(wrap64 ((Go.bits .or .i64 x7_1 (ji12)) + 1)))) 2),wrap64 (x1_1 + 1),true)) else (some (0,0,false))) = some (r1,r2,r3) := H
              have A17 := Aside0.mk A170
              clear A170
              by_cases c18 : t280 = true
              ·subst c18
               have H1 : (some (wrap64 (Int.tdiv (wrap64 (-(wrap64 ((Go.bits .or .i64 x7_1 (ji12)) + 1)))) 2),wrap64 (x1_1 + 1),true)) = some (r1,r2,r3) := by rw [if_pos rfl] at H;exact H
               clear H
               have H := H1
               clear H1
               simp only [Option.some.injEq,Prod.mk.injEq] at H
               obtain ⟨rfl,rfl,rfl⟩ := H
               have p279 : 0 ≤ (x1_1 : Int) := of_decide_eq_true (by first | (with_reducible assumption) | assumption)
               have q279 : x1_1 < (l0.length : Int) := of_decide_eq_true (by first | (with_reducible assumption) | assumption)
               obtain ⟨ad279,e279,hx279_0⟩ := Kd.at_int HR0.out x1_1 p279 q279
               cases e279
               replace p279 := eq_true p279
               replace q279 := eq_true q279
               go_wp2_with (first | (go_at_call 40;(with_reducible refine (impl_inRange.calls (wrap64 (Int.tdiv (wrap64 (-(wrap64 ((Go.bits .or .i64 x7_1 (ji12)) + 1)))) 2)) (-1000000000000) 1000000000000 true _ A17.out).mono ?_);rintro e w' ⟨rfl,⟨nd,rfl⟩⟩))
               go_ret3
               exact ⟨by first | rfl | (simp;done) | (simp only [← hji10,← hji12] <;> (first | rfl | simp)) | (simp [*];done),by repeat (first | exact Drawn0.refl _ | apply Drawn0.step)⟩
              ·replace c18 := Bool.eq_false_iff.mpr c18
               subst c18
               have H1 : (some (0,0,false)) = some (r1,r2,r3) := by rw [if_neg (show ¬ (false = true) by decide)] at H;exact H
               clear H
               have H := H1
               clear H1
               simp only [Option.some.injEq,Prod.mk.injEq] at H
               obtain ⟨rfl,rfl,rfl⟩ := H
               have p279 : 0 ≤ (x1_1 : Int) := of_decide_eq_true (by first | (with_reducible assumption) | assumption)
               have q279 : x1_1 < (l0.length : Int) := of_decide_eq_true (by first | (with_reducible assumption) | assumption)
               obtain ⟨ad279,e279,hx279_0⟩ := Kd.at_int HR0.out x1_1 p279 q279
               cases e279
               replace p279 := eq_true p279
               replace q279 := eq_true q279
               go_wp2_with (first | (go_at_call 40;(with_reducible refine (impl_inRange.calls (wrap64 (Int.tdiv (wrap64 (-(wrap64 ((Go.bits .or .i64 x7_1 (ji12)) + 1)))) 2)) (-1000000000000) 1000000000000 false _ A17.out).mono ?_);rintro e w' ⟨rfl,⟨nd,rfl⟩⟩))
               go_ret3
               exact ⟨by first | rfl | (simp;done) | (simp only [← hji10,← hji12] <;> (first | rfl | simp)) | (simp [*];done),by repeat (first | exact Drawn0.refl _ | apply Drawn0.step)⟩
            ·rw [if_neg c15] at H
             have c15b0 : ((wrap64 (rd l0 x1_1)) == 0) = false := beq_eq_false_iff_ne.mpr c15
             have c15b1 : ((wrap64 (rd l0 x1_1)) != 0) = true := bne_iff_ne.mpr c15
             replace H := Option.bind_eq_some_iff.mp H
             obtain ⟨t281,A190,H⟩ := H
             replace H : (if t281 = true then (some (wrap64 (Int.tdiv (wrap64 (-(wrap64 ((Go.bits .or .i64 x7_1 (ji12)) + 1)))) 2),wrap64 (x1_1 + 1),true)) else (some (0,0,false))) = some (r1,r2,r3) := H
             have A19 := Aside0.mk A190
             clear A190
             by_cases c20 : t281 = true
             ·subst c20
              have H1 : (some (wrap64 (Int.tdiv (wrap64 (-(wrap64 ((Go.bits .or .i64 x7_1 (ji12)) + 1)))) 2),wrap64 (x1_1 + 1),true)) = some (r1,r2,r3) := by rw [if_pos rfl] at H;exact H
              clear H
              have H := H1
              clear H1
              simp only [Option.some.injEq,Prod.mk.injEq] at H
              obtain ⟨rfl,rfl,rfl⟩ := H
              have p279 : 0 ≤ (x1_1 : Int) := of_decide_eq_true (by first | (with_reducible assumption) | assumption)
              have q279 : x1_1 < (l0.length : Int) := of_decide_eq_true (by first | (with_reducible assumption) | assumption)
              obtain ⟨ad279,e279,hx279_0⟩ := Kd.at_int HR0.out x1_1 p279 q279
              cases e279
              replace p279 := eq_true p279
              replace q279 := eq_true q279
              go_wp2_with (first | (go_at_call 40;(with_reducible refine (impl_inRange.calls (wrap64 (Int.tdiv (wrap64 (-(wrap64 ((Go.bits .or .i64 x7_1 (ji12)) + 1)))) 2)) (-1000000000000) 1000000000000 true _ A19.out).mono ?_);rintro e w' ⟨rfl,⟨nd,rfl⟩⟩))
              go_ret3
              exact ⟨by first | rfl | (simp;done) | (simp only [← hji10,← hji12] <;> (first | rfl | simp)) | (simp [*];done),by repeat (first | exact Drawn0.refl _ | apply Drawn0.step)⟩
             ·replace c20 := Bool.eq_false_iff.mpr c20
              subst c20
              have H1 : (some (0,0,false)) = some (r1,r2,r3) := by rw [if_neg (show ¬ (false = true) by decide)] at H;exact H
              clear H
              have H := H1
              clear H1
              simp only [Option.some.injEq,Prod.mk.injEq] at H
              obtain ⟨rfl,rfl,rfl⟩ := H
              have p279 : 0 ≤ (x1_1 : Int) := of_decide_eq_true (by first | (with_reducible assumption) | assumption)
              have q279 : x1_1 < (l0.length : Int) := of_decide_eq_true (by first | (with_reducible assumption) | assumption)
              obtain ⟨ad279,e279,hx279_0⟩ := Kd.at_int HR0.out x1_1 p279 q279
              cases e279
              replace p279 := eq_true p279
              replace q279 := eq_true q279
              go_wp2_with (first | (go_at_call 40;(with_reducible refine (impl_inRange.calls (wrap64 (Int.tdiv (wrap64 (-(wrap64 ((Go.bits .or .i64 x7_1 (ji12)) + 1)))) 2)) (-1000000000000) 1000000000000 false _ A19.out).mono ?_);rintro e w' ⟨rfl,⟨nd,rfl⟩⟩))
              go_ret3
              exact ⟨by first | rfl | (simp;done) | (simp only [← hji10,← hji12] <;> (first | rfl | simp)) | (simp [*];done),by repeat (first | exact Drawn0.refl _ | apply Drawn0.step)⟩
           ·rw [if_neg c14] at H
            have c14b0 : ((Int.tmod (Go.bits .or .i64 x7_1 (ji12)) 2) == 1) = false := beq_eq_false_iff_ne.mpr c14
            have c14b1 : ((Int.tmod (Go.bits .or .i64 x7_1 (ji12)) 2) != 1) = true := bne_iff_ne.mpr c14
            by_cases c21 : (wrap64 (rd l0 x1_1)) = 0
            ·rw [if_pos c21] at H
             have c21b0 : ((wrap64 (rd l0 x1_1)) == 0) = true := beq_iff_eq.mpr c21
             have c21b1 : ((wrap64 (rd l0 x1_1)) != 0) = false := bne_eq_false_iff_eq.mpr c21
             clear c21
             by_cases c22 : x8_1 > 0
             ·rw [if_pos c22] at H
              have c22b0 : decide (0 < x8_1) = true := decide_eq_true c22
              clear c22
              simp only [Option.some.injEq,Prod.mk.injEq] at H
              obtain ⟨rfl,rfl,rfl⟩ := H
              have p279 : 0 ≤ (x1_1 : Int) := of_decide_eq_true (by first | (with_reducible assumption) | assumption)
              have q279 : x1_1 < (l0.length : Int) := of_decide_eq_true (by first | (with_reducible assumption) | assumption)
              obtain ⟨ad279,e279,hx279_0⟩ := Kd.at_int HR0.out x1_1 p279 q279
              cases e279
              replace p279 := eq_true p279
              replace q279 := eq_true q279
              go_wp2
              go_ret3
              exact ⟨by first | rfl | (simp;done) | (simp only [← hji10,← hji12] <;> (first | rfl | simp)) | (simp [*];done),by repeat (first | exact Drawn0.refl _ | apply Drawn0.step)⟩
             ·rw [if_neg c22] at H
              have c22b0 : decide (0 < x8_1) = false := decide_eq_false c22
              clear c22
              replace H := Option.bind_eq_some_iff.mp H
              obtain ⟨t282,A230,H⟩ := H
              replace H : (if t282 = true then (some (wrap64 (Int.tdiv (Go.bits .or .i64 x7_1 (ji12)) 2),wrap64 (x1_1 + 1),true)) else (some (0,0,false))) = some (r1,r2,r3) := H
              have A23 := Aside0.mk A230
              clear A230
              by_cases c24 : t282 = true
              ·subst c24
               have H1 : (some (wrap64 (Int.tdiv (Go.bits .or .i64 x7_1 (ji12)) 2),wrap64 (x1_1 + 1),true)) = some (r1,r2,r3) := by rw [if_pos rfl] at H;exact H
               clear H
               have H := H1
               clear H1
               simp only [Option.some.injEq,Prod.mk.injEq] at H
               obtain ⟨rfl,rfl,rfl⟩ := H
               have p279 : 0 ≤ (x1_1 : Int) := of_decide_eq_true (by first | (with_reducible assumption) | assumption)
               have q279 : x1_1 < (l0.length : Int) := of_decide_eq_true (by first | (with_reducible assumption) | assumption)
               obtain ⟨ad279,e279,hx279_0⟩ := Kd.at_int HR0.out x1_1 p279 q279
               cases e279
               replace p279 := eq_true p279
               replace q279 := eq_true q279
               go_wp2_with (first | (go_at_call 40;(with_reducible refine (impl_inRange.calls (wrap64 (Int.tdiv (Go.bits .or .i64 x7_1 (ji12)) 2)) (-1000000000000) 1000000000000 true _ A23.out).mono ?_);rintro e w' ⟨rfl,⟨nd,rfl⟩⟩))
               go_ret3
               exact ⟨by first | rfl | (simp;done) | (simp only [← hji10,← hji12] <;> (first | rfl | simp)) | (simp [*];done),by repeat (first | exact Drawn0.refl _ | apply Drawn0.step)⟩
              ·replace c24 := Bool.eq_false_iff.mpr c24
               subst c24
               have H1 : (some (0,0,false)) = some (r1,r2,r3) := by rw [if_neg (show ¬ (false = true) by decide)] at H;exact H
               clear H
               have H := H1
               clear H1
               simp only [Option.some.injEq,Prod.mk.injEq] at H
               obtain ⟨rfl,rfl,rfl⟩ := H
               have p279 : 0 ≤ (x1_1 : Int) := of_decide_eq_true (by first | (with_reducible assumption) | assumption)
               have q279 : x1_1 < (l0.length : Int) := of_decide_eq_true (by first | (with_reducible assumption) | assumption)
               obtain ⟨ad279,e279,hx279_0⟩ := Kd.at_int HR0.out x1_1 p279 q279
               cases e279
               replace p279 := eq_true p279
               replace q279 := eq_true q279
               go_wp2_with (first | (go_at_call 40;(with_reducible refine (impl_inRange.calls (wrap64 (Int.tdiv (Go.bits .or .i64 x7_1 (ji12)) 2)) (-1000000000000) 1000000000000 false _ A23.out).mono ?_);rintro e w' ⟨rfl,⟨nd,rfl⟩⟩))
               go_ret3
               exact ⟨by first | rfl | (simp;done) | (simp only [← hji10,← hji12] <;> (first | rfl | simp)) | (simp [*];done),by repeat (first | exact Drawn0.refl _ | apply Drawn0.step)⟩
            ·rw [if_neg c21] at H
             have c21b0 : ((wrap64 (rd l0 x1_1)) == 0) = false := beq_eq_false_iff_ne.mpr c21
             have c21b1 : ((wrap64 (rd l0 x1_1)) != 0) = true := bne_iff_ne.mpr c21
             replace H := Option.bind_eq_some_iff.mp H
             obtain ⟨t283,A250,H⟩ := H
             replace H : (if t283 = true then (some (wrap64 (Int.tdiv (Go.bits .or .i64 x7_1 (ji12)) 2),wrap64 (x1_1 + 1),true)) else (some (0,0,false))) = some (r1,r2,r3) := H
             have A25 := Aside0.mk A250
             clear A250
             by_cases c26 : t283 = true
             ·subst c26
              have H1 : (some (wrap64 (Int.tdiv (Go.bits .or .i64 x7_1 (ji12)) 2),wrap64 (x1_1 + 1),true)) = some (r1,r2,r3) := by rw [if_pos rfl] at H;exact H
              clear H
              have H := H1
              clear H1
              simp only [Option.some.injEq,Prod.mk.injEq] at H
              obtain ⟨rfl,rfl,rfl⟩ := H
              have p279 : 0 ≤ (x1_1 : Int) := of_decide_eq_true (by first | (with_reducible assumption) | assumption)
              have q279 : x1_1 < (l0.length : Int) := of_decide_eq_true (by first | (with_reducible assumption) | assumption)
              obtain ⟨ad279,e279,hx279_0⟩ := Kd.at_int HR0.out x1_1 p279 q279
              cases e279
              replace p279 := eq_true p279
              replace q279 := eq_true q279
              go_wp2_with (first | (go_at_call 40;(with_reducible refine (impl_inRange.calls (wrap64 (Int.tdiv (Go.bits .or .i64 x7_1 (ji12)) 2)) (-1000000000000) 1000000000000 true _ A25.out).mono ?_);rintro e w' ⟨rfl,⟨nd,rfl⟩⟩))
              go_ret3
              exact ⟨by first | rfl | (simp;done) | (simp only [← hji10,← hji12] <;> (first | rfl | simp)) | (simp [*];done),by repeat (first | exact Drawn0.refl _ | apply Drawn0.step)⟩
             ·replace c26 := Bool.eq_false_iff.mpr c26
              subst c26
              have H1 : (some (0,0,false)) = some (r1,r2,r3) := by rw [if_neg (show ¬ (false = true) by decide)] at H;exact H
              clear H
              have H := H1
              clear H1
              simp only [Option.some.injEq,Prod.mk.injEq] at H
              obtain ⟨rfl,rfl,rfl⟩ := H
              have p279 : 0 ≤ (x1_1 : Int) := of_decide_eq_true (by first | (with_reducible assumption) | assumption)
              have q279 : x1_1 < (l0.length : Int) := of_decide_eq_true (by first | (with_reducible assumption) | assumption)
              obtain ⟨ad279,e279,hx279_0⟩ := Kd.at_int HR0.out x1_1 p279 q279
              cases e279
              replace p279 := eq_true p279
              replace q279 := eq_true q279
              go_wp2_with (first | (go_at_call 40;(with_reducible refine (impl_inRange.calls (wrap64 (Int.tdiv (Go.bits .or .i64 x7_1 (ji12)) 2)) (-1000000000000) 1000000000000 false _ A25.out).mono ?_);rintro e w' ⟨rfl,⟨nd,rfl⟩⟩))
              go_ret3
              exact ⟨by first | rfl | (simp;done) | (simp only [← hji10,← hji12] <;> (first | rfl | simp)) | (simp [*];done),by repeat (first | exact Drawn0.refl _ | apply Drawn0.step)⟩
         ·rw [if_neg c11] at H
          exact absurd H (by simp)
        ·rw [if_neg c9] at H
         exact absurd H (by simp)
       ·rw [if_neg c8] at H
        exact absurd H (by simp)
      ·replace c7 := Bool.eq_false_iff.mpr c7
       subst c7
       have H1 : (some (0,0,false)) = some (r1,r2,r3) := by rw [if_neg (show ¬ (false = true) by decide)] at H;exact H
       clear H
       have H := H1
       clear H1
       simp only [Option.some.injEq,Prod.mk.injEq] at H
       obtain ⟨rfl,rfl,rfl⟩ := H
       go_wp2
       go_ret3
       exact ⟨by first | rfl | (simp;done) | (simp [*];done),by repeat (first | exact Drawn0.refl _ | apply Drawn0.step)⟩
 ·replace c4 := Bool.eq_false_iff.mpr c4
  subst c4
  have H1 : (some (0,0,false)) = some (r1,r2,r3) := by rw [if_neg (show ¬ (false = true) by decide)] at H;exact H
  clear H
  have H := H1
  clear H1
  simp only [Option.some.injEq,Prod.mk.injEq] at H
  obtain ⟨rfl,rfl,rfl⟩ := H
  go_enter Try.func38,Try.ntmps38
  go_wp2_with (first | ((with_reducible refine gate_callee (f := 40) rfl ?_);refine goesL_ (some 15) rfl rfl Try.func40 (by kernel_rfl) rfl #[.int .i64 a1,.int .i64 0,.int .i64 (wrap64 ((l0.length : Int) - 1))] rfl (by (try simp only [List.map_toArray,List.map_cons,List.map_nil]);first | done | rfl | (simp only [List.length_drop,List.length_take];rfl)) ?_;(with_reducible refine (impl_inRange.calls a1 0 (wrap64 ((l0.length : Int) - 1)) false _ A3.out).mono ?_);rintro e w' ⟨rfl,⟨nd,rfl⟩⟩;refine ⟨_,rfl,?_⟩))
  go_ret3
  exact ⟨by first | rfl | (simp;done) | (simp [*];done),by repeat (first | exact Drawn0.refl _ | apply Drawn0.step)⟩

/-- A state of type 40 at block g of W; what its slices lead to came in by w0. -/
def IsS40 (w0 W : World) (g : Nat) (f0 : List Int) (f1 : Int) (f2 : Bool) : Prop := ∃ A0 c0,W.heap[g]? = some (.cells #[.slice A0 f0.length c0,.int .i64 f1,.bool f2] 40 (0,0)) ∧ w0.heap.size ≤ g ∧ (Kd.C (Kd.int .u8) w0 A0 f0.length f0 ∧ f0.length ≤ c0)
theorem IsS40.grown {w0 W : World} {g : Nat} {f0 : List Int} {f1 : Int} {f2 : Bool} {W1 : World} {row : Option Nat} (h : IsS40 w0 W g f0 f1 f2) (hw : W.grownBy W1 row) (hne : some g ≠ row) : IsS40 w0 W1 g f0 f1 f2 := by
 obtain ⟨A0,c0,hb,hg,hr0⟩ := h
 exact ⟨A0,c0,blk_grown hb hw hne,hg,hr0⟩
theorem IsS40.own_neN {w0 W : World} {g : Nat} {f0 : List Int} {f1 : Int} {f2 : Bool} {α : Type} {d : Kd α} {e : Nat} {base : Nat} {ok : Nat → Prop} {v : Value} {xs : List α} (h : IsS40 w0 W g f0 f1 f2) (ho : Kd.N d e W base ok v xs) (ht : e ≠ 40) : some g ≠ v.ownBlock := by
 obtain ⟨A0,c0,hb,hg,hr0⟩ := h
 exact Kd.N_ne ho hb ht
theorem IsS40.fresh {w0 W : World} {g : Nat} {f0 : List Int} {f1 : Int} {f2 : Bool} (h : IsS40 w0 W g f0 f1 f2) : ∀ k,W.heap.size ≤ k → k ≠ g := by
 obtain ⟨A0,c0,hb,hg,hr0⟩ := h
 exact Kd.freshB hb
theorem IsS40.kept {w0 W : World} {g : Nat} {f0 : List Int} {f1 : Int} {f2 : Bool} {W1 : World} {S : Nat → Prop} (h : IsS40 w0 W g f0 f1 f2) (hk : Kept W W1 S) (hne : ¬ S g) : IsS40 w0 W1 g f0 f1 f2 := by
 obtain ⟨A0,c0,hb,hg,hr0⟩ := h
 exact ⟨A0,c0,blk_kept hb hk hne,hg,hr0⟩
theorem IsS40.below {w0 W : World} {g : Nat} {f0 : List Int} {f1 : Int} {f2 : Bool} {W1 : World} (h : IsS40 w0 W g f0 f1 f2) (hw : Below W.heap.size W W1) : IsS40 w0 W1 g f0 f1 f2 := h.grown (grown_of_below hw none) (by simp)
theorem IsS40.alloc {w0 W : World} {g : Nat} {f0 : List Int} {f1 : Int} {f2 : Bool} (h : IsS40 w0 W g f0 f1 f2) (o : Obj) : IsS40 w0 (W.alloc o) g f0 f1 f2 := h.below (below_alloc (Below.refl _ _) o)
theorem IsS40.drewN {w0 W : World} {g : Nat} {f0 : List Int} {f1 : Int} {f2 : Bool} (h : IsS40 w0 W g f0 f1 f2) (m : Nat) : IsS40 w0 (W.drewN m) g f0 f1 f2 := h
theorem IsS40.drew {w0 W : World} {g : Nat} {f0 : List Int} {f1 : Int} {f2 : Bool} (h : IsS40 w0 W g f0 f1 f2) : IsS40 w0 W.drew g f0 f1 f2 := h
theorem IsS40.at_ {w0 W : World} {g : Nat} {f0 : List Int} {f1 : Int} {f2 : Bool} {w' : World} {m : Nat} (hq : W.drewN m = w') (h : IsS40 w0 W g f0 f1 f2) : IsS40 w0 w' g f0 f1 f2 := by subst hq;exact IsS40.drewN h m
theorem IsS40.apart {w0 W : World} {g : Nat} {f0 : List Int} {f1 : Int} {f2 : Bool} {α : Type} {d : Kd α} {e : Nat} {base : Nat} {ok : Nat → Prop} {v : Value} {xs : List α} (h : IsS40 w0 W g f0 f1 f2) (ho : d.R e W base ok v xs) (ht : ∀ q,q ∈ e :: d.E → q ≠ 40) : d.R e W base (fun k => ok k ∧ k ≠ g) v xs := by
 obtain ⟨A0,c0,hb,hg,hr0⟩ := h
 exact Kd.R_types ho hb ht
theorem IsS40.own_ne {w0 W : World} {g : Nat} {f0 : List Int} {f1 : Int} {f2 : Bool} {α : Type} {d : Kd α} {e : Nat} {base : Nat} {ok : Nat → Prop} {v : Value} {xs : List α} (h : IsS40 w0 W g f0 f1 f2) (ho : d.R e W base ok v xs) (ht : e ≠ 40) : some g ≠ v.ownBlock := by
 obtain ⟨A0,c0,hb,hg,hr0⟩ := h
 exact Kd.R_ne ho hb ht
theorem IsS40.apartQ {w0 W : World} {g : Nat} {f0 : List Int} {f1 : Int} {f2 : Bool} {α : Type} {d : Kd α} {e : Nat} {base : Nat} {ok : Nat → Prop} {v : Value} {xs : List α} (h : IsS40 w0 W g f0 f1 f2) (ho : d.Q e W base ok v xs) (ht : ∀ q,q ∈ e :: d.E → q ≠ 40) : d.Q e W base (fun k => ok k ∧ k ≠ g) v xs := by
 obtain ⟨A0,c0,hb,hg,hr0⟩ := h
 exact Kd.Q_types ho hb ht
theorem IsS40.own_neQ {w0 W : World} {g : Nat} {f0 : List Int} {f1 : Int} {f2 : Bool} {α : Type} {d : Kd α} {e : Nat} {base : Nat} {ok : Nat → Prop} {v : Value} {xs : List α} (h : IsS40 w0 W g f0 f1 f2) (ho : d.Q e W base ok v xs) (ht : e ≠ 40) : some g ≠ v.ownBlock := by
 obtain ⟨A0,c0,hb,hg,hr0⟩ := h
 exact Kd.Q_ne ho hb ht
theorem IsS40.apartS {w0 W : World} {g : Nat} {f0 : List Int} {f1 : Int} {f2 : Bool} {α : Type} {d : Kd α} {e : Nat} {base : Nat} {ok : Nat → Prop} {v : Value} {xs : List α} (h : IsS40 w0 W g f0 f1 f2) (ho : d.S e W base ok v xs) (ht : ∀ q,q ∈ e :: d.E → q ≠ 40) : d.S e W base (fun k => ok k ∧ k ≠ g) v xs := by
 obtain ⟨A0,c0,hb,hg,hr0⟩ := h
 exact Kd.S_types ho hb ht
theorem IsS40.own_neS {w0 W : World} {g : Nat} {f0 : List Int} {f1 : Int} {f2 : Bool} {α : Type} {d : Kd α} {e : Nat} {base : Nat} {ok : Nat → Prop} {v : Value} {xs : List α} (h : IsS40 w0 W g f0 f1 f2) (ho : d.S e W base ok v xs) (ht : e ≠ 40) : some g ≠ v.ownBlock := by
 obtain ⟨A0,c0,hb,hg,hr0⟩ := h
 exact Kd.S_ne ho hb ht
theorem IsS40.lt {w0 W : World} {g : Nat} {f0 : List Int} {f1 : Int} {f2 : Bool} (h : IsS40 w0 W g f0 f1 f2) : g < W.heap.size := by
 obtain ⟨A0,c0,hb,hg,hr0⟩ := h
 exact blk_lt hb
theorem IsS40.ge {w0 W : World} {g : Nat} {f0 : List Int} {f1 : Int} {f2 : Bool} (h : IsS40 w0 W g f0 f1 f2) : w0.heap.size ≤ g := by
 obtain ⟨A0,c0,hb,hg,hr0⟩ := h
 exact hg
theorem IsS40.ne_blk {w0 W : World} {g : Nat} {f0 : List Int} {f1 : Int} {f2 : Bool} {a : Nat} {cs : Array Value} {t : TypeId} {fr : Nat × Nat} (h : IsS40 w0 W g f0 f1 f2) (hb2 : W.heap[a]? = some (.cells cs t fr)) (ht : t ≠ 40) : g ≠ a := by
 obtain ⟨A0,c0,hb,hg,hr0⟩ := h
 rintro rfl
 rw [hb] at hb2
 injection hb2 with hb2
 injection hb2 with _ ht2
 exact ht ht2.symm
theorem IsS40.far {w0 W : World} {g : Nat} {f0 : List Int} {f1 : Int} {f2 : Bool} {p : Addr} (h : IsS40 w0 W g f0 f1 f2) (hne : g ≠ p.block) (u : Value) : IsS40 w0 (W.setCell p u) g f0 f1 f2 := by
 obtain ⟨A0,c0,hb,hg,hr0⟩ := h
 exact ⟨A0,c0,blk_far hb hne u,hg,hr0⟩
theorem cellS40_0 {W : World} {g : Nat} {A0 : Option Addr} {c0 : Nat} {f0 : List Int} {f1 : Int} {f2 : Bool} (h : W.heap[g]? = some (.cells #[.slice A0 f0.length c0,.int .i64 f1,.bool f2] 40 (0,0))) : W.cell? ⟨g,0,none⟩ = some (.slice A0 f0.length c0) := (blk_cell h 0).trans rfl
theorem cellS40_1 {W : World} {g : Nat} {A0 : Option Addr} {c0 : Nat} {f0 : List Int} {f1 : Int} {f2 : Bool} (h : W.heap[g]? = some (.cells #[.slice A0 f0.length c0,.int .i64 f1,.bool f2] 40 (0,0))) : W.cell? ⟨g,1,none⟩ = some (.int .i64 f1) := (blk_cell h 1).trans rfl
theorem IsS40.set_1 {w0 W : World} {g : Nat} {f0 : List Int} {f1 : Int} {f2 : Bool} (h : IsS40 w0 W g f0 f1 f2) (x : Int) : IsS40 w0 (W.setCell ⟨g,1,none⟩ (.int .i64 x)) g f0 x f2 := by
 obtain ⟨A0,c0,hb,hg,hr0⟩ := h
 exact ⟨A0,c0,by simpa using blk_set hb 1 (.int .i64 x),hg,hr0⟩
theorem cellS40_2 {W : World} {g : Nat} {A0 : Option Addr} {c0 : Nat} {f0 : List Int} {f1 : Int} {f2 : Bool} (h : W.heap[g]? = some (.cells #[.slice A0 f0.length c0,.int .i64 f1,.bool f2] 40 (0,0))) : W.cell? ⟨g,2,none⟩ = some (.bool f2) := (blk_cell h 2).trans rfl
theorem IsS40.set_2 {w0 W : World} {g : Nat} {f0 : List Int} {f1 : Int} {f2 : Bool} (h : IsS40 w0 W g f0 f1 f2) (x : Bool) : IsS40 w0 (W.setCell ⟨g,2,none⟩ (.bool x)) g f0 f1 x := by
 obtain ⟨A0,c0,hb,hg,hr0⟩ := h
 exact ⟨A0,c0,by simpa using blk_set hb 2 (.bool x),hg,hr0⟩
theorem IsS40.new (w0 W : World) (A0 : Option Addr) (c0 : Nat) (f0 : List Int) (f1 : Int) (f2 : Bool) (hB : Below w0.heap.size w0 W) (hr0 : Kd.C (Kd.int .u8) w0 A0 f0.length f0 ∧ f0.length ≤ c0) : IsS40 w0 (W.alloc (.cells #[.slice A0 f0.length c0,.int .i64 f1,.bool f2] 40)) W.heap.size f0 f1 f2 := ⟨A0,c0,by simpa using heap_alloc_new W _,hB.size,hr0⟩
theorem IsS40.of_blk {w0 W : World} {g : Nat} {A0 : Option Addr} {c0 : Nat} {f0 : List Int} {f1 : Int} {f2 : Bool} (hb : W.heap[g]? = some (.cells #[.slice A0 f0.length c0,.int .i64 f1,.bool f2] 40 (0,0))) (hg : w0.heap.size ≤ g) (hr0 : Kd.C (Kd.int .u8) w0 A0 f0.length f0 ∧ f0.length ≤ c0) : IsS40 w0 W g f0 f1 f2 := ⟨A0,c0,hb,hg,hr0⟩

/-! ### impl_getter_num: function 26 -/
def impl_getter_num.f (k : Nat) (s0_0 : List Int) (s0_1 : Int) (s0_2 : Bool) : Option (Int × Int × Bool) := (impl_GetNum.f k s0_0 s0_1).bind fun bt284 => (if s0_2 = true then (some (0,s0_1,true)) else (if bt284.2.2 = true then (some (bt284.1,bt284.2.1,s0_2)) else (some (0,s0_1,true))))
theorem impl_getter_num.mono : ∀ a0 a1 a2 k,LeO (impl_getter_num.f k a0 a1 a2) (impl_getter_num.f (k + 1) a0 a1 a2) := by
 intro a0 a1 a2 k
 unfold impl_getter_num.f
 repeat' first
   | (with_reducible exact impl_GetNum.mono _ _ _)
   | (with_reducible exact LeO.refl _)
   | (with_reducible exact LeO.none _)
   | (with_reducible refine LeO.ite ?_ ?_)
   | (with_reducible refine LeO.bind ?_ (fun _ => ?_))
   | exact impl_GetNum.mono _ _ _
   | exact LeO.none _
   | refine LeO.ite ?_ ?_
   | refine LeO.bind ?_ (fun _ => ?_)
set_option maxHeartbeats 8000000 in
set_option maxRecDepth 100000 in
theorem impl_getter_num.calls (k : Nat) (g : Nat) (s0_0 : List Int) (s0_1 : Int) (s0_2 : Bool) (r1 : Int) (r2 : Int) (r3 : Bool) (w0 w : World) (hI : IsS40 w0 w g s0_0 s0_1 s0_2) (hB : Below w0.heap.size w0 w) (h : impl_getter_num.f k s0_0 s0_1 s0_2 = some (r1,r2,r3)) :
  Calls Try.prog 26 #[.pointer (some ⟨g,0,none⟩)] w fun e w' => e = .returned (.int .i64 r1) ∧ IsS40 w0 w' g s0_0 r2 r3 ∧ Below w0.heap.size w0 w' ∧ KeepBut w w' g none := by
 have HI0 := Aside0.mk hI
 have HK := Aside0.mk (KeepBut.refl w g none)
 have HL := Aside0.mk hB.size
 clear hI
 have HW0 := Aside0.mk hB.size
 have HB := Aside0.mk hB
 clear hB
 have H : ((impl_GetNum.f k s0_0 s0_1).bind fun bt284 => (if s0_2 = true then (some (0,s0_1,true)) else (if bt284.2.2 = true then (some (bt284.1,bt284.2.1,s0_2)) else (some (0,s0_1,true))))) = some (r1,r2,r3) := h
 clear h
 replace H := Option.bind_eq_some_iff.mp H
 obtain ⟨⟨t284,t285,t286⟩,A20,H⟩ := H
 replace H : (if s0_2 = true then (some (0,s0_1,true)) else (if t286 = true then (some (t284,t285,s0_2)) else (some (0,s0_1,true)))) = some (r1,r2,r3) := H
 have A2 := Aside0.mk A20
 clear A20
 by_cases c3 : s0_2 = true
 ·subst c3
  have H1 : (some (0,s0_1,true)) = some (r1,r2,r3) := by rw [if_pos rfl] at H;exact H
  clear H
  have H := H1
  clear H1
  simp only [Option.some.injEq,Prod.mk.injEq] at H
  obtain ⟨rfl,rfl,rfl⟩ := H
  obtain ⟨ASz4_0,cSz4_0,HGz4,hgz4,⟨HSz4_0,HLz4_0⟩⟩ := HI0.out
  have hcz4_0 := cellS40_0 HGz4
  have hcz4_1 := cellS40_1 HGz4
  have hcz4_2 := cellS40_2 HGz4
  have hfz4_1 := blk_frozen HGz4 1
  have hfz4_2 := blk_frozen HGz4 2
  clear HGz4 hgz4
  go_enter Try.func26,Try.ntmps26
  go_wp2_with (first | (go_at_call 38;(with_reducible refine (impl_GetNum.calls k _ _ s0_0 s0_1 t284 t285 t286 _ ?side1 ?side2 A2.out).mono ?_);(case side1 => repeat (first | exact HSz4_0 | exact Kd.C_below HSz4_0 (by repeat (first | (with_reducible first | exact HB.out | apply below_alloc | apply pw_below_drewN | apply below_drew1 | refine below_set ?_ (IsS40.ge HI0.out)) | exact HB.out)) | (with_reducible refine Kd.C_alloc ?_ _) | (with_reducible refine Kd.C_drewN ?_ _) | (with_reducible refine Kd.C_drew ?_)));(case side2 => exact HLz4_0);rintro e w' ⟨rfl,⟨nd,rfl⟩⟩;(try first | exact ⟨rfl,_,World.drewN_drewN _ _ _⟩ | exact ⟨rfl,_,Eq.trans (World.drewN_drewN _ _ _) (congrArg (World.drewN _) (Nat.add_assoc _ _ _))⟩)))
  repeat (go_quiet (first | (go_at_call 38;(with_reducible refine (impl_GetNum.calls k _ _ s0_0 s0_1 t284 t285 t286 _ ?side1 ?side2 A2.out).mono ?_);(case side1 => repeat (first | exact HSz4_0 | exact Kd.C_below HSz4_0 (by repeat (first | (with_reducible first | exact HB.out | apply below_alloc | apply pw_below_drewN | apply below_drew1 | refine below_set ?_ (IsS40.ge HI0.out)) | exact HB.out)) | (with_reducible refine Kd.C_alloc ?_ _) | (with_reducible refine Kd.C_drewN ?_ _) | (with_reducible refine Kd.C_drew ?_)));(case side2 => exact HLz4_0);rintro e w' ⟨rfl,⟨nd,rfl⟩⟩;(try first | exact ⟨rfl,_,World.drewN_drewN _ _ _⟩ | exact ⟨rfl,_,Eq.trans (World.drewN_drewN _ _ _) (congrArg (World.drewN _) (Nat.add_assoc _ _ _))⟩)));try go_wp2_with (first | (go_at_call 38;(with_reducible refine (impl_GetNum.calls k _ _ s0_0 s0_1 t284 t285 t286 _ ?side1 ?side2 A2.out).mono ?_);(case side1 => repeat (first | exact HSz4_0 | exact Kd.C_below HSz4_0 (by repeat (first | (with_reducible first | exact HB.out | apply below_alloc | apply pw_below_drewN | apply below_drew1 | refine below_set ?_ (IsS40.ge HI0.out)) | exact HB.out)) | (with_reducible refine Kd.C_alloc ?_ _) | (with_reducible refine Kd.C_drewN ?_ _) | (with_reducible refine Kd.C_drew ?_)));(case side2 => exact HLz4_0);rintro e w' ⟨rfl,⟨nd,rfl⟩⟩;(try first | exact ⟨rfl,_,World.drewN_drewN _ _ _⟩ | exact ⟨rfl,_,Eq.trans (World.drewN_drewN _ _ _) (congrArg (World.drewN _) (Nat.add_assoc _ _ _))⟩))))
  go_ret
  exact ⟨by first | rfl | (simp [*,errW_none,errW_some] <;> rfl),by repeat (first | (with_reducible first | exact HI0.out | apply IsS40.alloc | apply IsS40.drewN | apply IsS40.drew | apply IsS40.set_1 | apply IsS40.set_2) | exact HI0.out),by repeat (first | (with_reducible first | exact HB.out | apply below_alloc | apply pw_below_drewN | apply below_drew1 | refine below_set ?_ (IsS40.ge HI0.out)) | exact HB.out),by repeat (first | (with_reducible first | exact HK.out | apply KeepBut.set_ | apply keep_drewN | apply keep_drew | apply keep_alloc) | exact HK.out)⟩
 ·replace c3 := Bool.eq_false_iff.mpr c3
  subst c3
  have H1 : (if t286 = true then (some (t284,t285,false)) else (some (0,s0_1,true))) = some (r1,r2,r3) := by rw [if_neg (show ¬ (false = true) by decide)] at H;exact H
  clear H
  have H := H1
  clear H1
  by_cases c5 : t286 = true
  ·subst c5
   have H1 : (some (t284,t285,false)) = some (r1,r2,r3) := by rw [if_pos rfl] at H;exact H
   clear H
   have H := H1
   clear H1
   simp only [Option.some.injEq,Prod.mk.injEq] at H
   obtain ⟨rfl,rfl,rfl⟩ := H
   obtain ⟨ASz6_0,cSz6_0,HGz6,hgz6,⟨HSz6_0,HLz6_0⟩⟩ := HI0.out
   have hcz6_0 := cellS40_0 HGz6
   have hcz6_1 := cellS40_1 HGz6
   have hcz6_2 := cellS40_2 HGz6
   have hfz6_1 := blk_frozen HGz6 1
   have hfz6_2 := blk_frozen HGz6 2
   clear HGz6 hgz6
   go_enter Try.func26,Try.ntmps26
   go_wp2_with (first | (go_at_call 38;(with_reducible refine (impl_GetNum.calls k _ _ s0_0 s0_1 t284 t285 true _ ?side1 ?side2 A2.out).mono ?_);(case side1 => repeat (first | exact HSz6_0 | exact Kd.C_below HSz6_0 (by repeat (first | (with_reducible first | exact HB.out | apply below_alloc | apply pw_below_drewN | apply below_drew1 | refine below_set ?_ (IsS40.ge HI0.out)) | exact HB.out)) | (with_reducible refine Kd.C_alloc ?_ _) | (with_reducible refine Kd.C_drewN ?_ _) | (with_reducible refine Kd.C_drew ?_)));(case side2 => exact HLz6_0);rintro e w' ⟨rfl,⟨nd,rfl⟩⟩;(try first | exact ⟨rfl,_,World.drewN_drewN _ _ _⟩ | exact ⟨rfl,_,Eq.trans (World.drewN_drewN _ _ _) (congrArg (World.drewN _) (Nat.add_assoc _ _ _))⟩)))
   repeat (go_quiet (first | (go_at_call 38;(with_reducible refine (impl_GetNum.calls k _ _ s0_0 s0_1 t284 t285 true _ ?side1 ?side2 A2.out).mono ?_);(case side1 => repeat (first | exact HSz6_0 | exact Kd.C_below HSz6_0 (by repeat (first | (with_reducible first | exact HB.out | apply below_alloc | apply pw_below_drewN | apply below_drew1 | refine below_set ?_ (IsS40.ge HI0.out)) | exact HB.out)) | (with_reducible refine Kd.C_alloc ?_ _) | (with_reducible refine Kd.C_drewN ?_ _) | (with_reducible refine Kd.C_drew ?_)));(case side2 => exact HLz6_0);rintro e w' ⟨rfl,⟨nd,rfl⟩⟩;(try first | exact ⟨rfl,_,World.drewN_drewN _ _ _⟩ | exact ⟨rfl,_,Eq.trans (World.drewN_drewN _ _ _) (congrArg (World.drewN _) (Nat.add_assoc _ _ _))⟩)));try go_wp2_with (first | (go_at_call 38;(with_reducible refine (impl_GetNum.calls k _ _ s0_0 s0_1 t284 t285 true _ ?side1 ?side2 A2.out).mono ?_);(case side1 => repeat (first | exact HSz6_0 | exact Kd.C_below HSz6_0 (by repeat (first | (with_reducible first | exact HB.out | apply below_alloc | apply pw_below_drewN | apply below_drew1 | refine below_set ?_ (IsS40.ge HI0.out)) | exact HB.out)) | (with_reducible refine Kd.C_alloc ?_ _) | (with_reducible refine Kd.C_drewN ?_ _) | (with_reducible refine Kd.C_drew ?_)));(case side2 => exact HLz6_0);rintro e w' ⟨rfl,⟨nd,rfl⟩⟩;(try first | exact ⟨rfl,_,World.drewN_drewN _ _ _⟩ | exact ⟨rfl,_,Eq.trans (World.drewN_drewN _ _ _) (congrArg (World.drewN _) (Nat.add_assoc _ _ _))⟩))))
   go_ret
   exact ⟨by first | rfl | (simp [*,errW_none,errW_some] <;> rfl),by repeat (first | (with_reducible first | exact HI0.out | apply IsS40.alloc | apply IsS40.drewN | apply IsS40.drew | apply IsS40.set_1 | apply IsS40.set_2) | exact HI0.out),by repeat (first | (with_reducible first | exact HB.out | apply below_alloc | apply pw_below_drewN | apply below_drew1 | refine below_set ?_ (IsS40.ge HI0.out)) | exact HB.out),by repeat (first | (with_reducible first | exact HK.out | apply KeepBut.set_ | apply keep_drewN | apply keep_drew | apply keep_alloc) | exact HK.out)⟩
  ·replace c5 := Bool.eq_false_iff.mpr c5
   subst c5
   have H1 : (some (0,s0_1,true)) = some (r1,r2,r3) := by rw [if_neg (show ¬ (false = true) by decide)] at H;exact H
   clear H
   have H := H1
   clear H1
   simp only [Option.some.injEq,Prod.mk.injEq] at H
   obtain ⟨rfl,rfl,rfl⟩ := H
   obtain ⟨ASz7_0,cSz7_0,HGz7,hgz7,⟨HSz7_0,HLz7_0⟩⟩ := HI0.out
   have hcz7_0 := cellS40_0 HGz7
   have hcz7_1 := cellS40_1 HGz7
   have hcz7_2 := cellS40_2 HGz7
   have hfz7_1 := blk_frozen HGz7 1
   have hfz7_2 := blk_frozen HGz7 2
   clear HGz7 hgz7
   go_enter Try.func26,Try.ntmps26
   go_wp2_with (first | (go_at_call 38;(with_reducible refine (impl_GetNum.calls k _ _ s0_0 s0_1 t284 t285 false _ ?side1 ?side2 A2.out).mono ?_);(case side1 => repeat (first | exact HSz7_0 | exact Kd.C_below HSz7_0 (by repeat (first | (with_reducible first | exact HB.out | apply below_alloc | apply pw_below_drewN | apply below_drew1 | refine below_set ?_ (IsS40.ge HI0.out)) | exact HB.out)) | (with_reducible refine Kd.C_alloc ?_ _) | (with_reducible refine Kd.C_drewN ?_ _) | (with_reducible refine Kd.C_drew ?_)));(case side2 => exact HLz7_0);rintro e w' ⟨rfl,⟨nd,rfl⟩⟩;(try first | exact ⟨rfl,_,World.drewN_drewN _ _ _⟩ | exact ⟨rfl,_,Eq.trans (World.drewN_drewN _ _ _) (congrArg (World.drewN _) (Nat.add_assoc _ _ _))⟩)))
   repeat (go_quiet (first | (go_at_call 38;(with_reducible refine (impl_GetNum.calls k _ _ s0_0 s0_1 t284 t285 false _ ?side1 ?side2 A2.out).mono ?_);(case side1 => repeat (first | exact HSz7_0 | exact Kd.C_below HSz7_0 (by repeat (first | (with_reducible first | exact HB.out | apply below_alloc | apply pw_below_drewN | apply below_drew1 | refine below_set ?_ (IsS40.ge HI0.out)) | exact HB.out)) | (with_reducible refine Kd.C_alloc ?_ _) | (with_reducible refine Kd.C_drewN ?_ _) | (with_reducible refine Kd.C_drew ?_)));(case side2 => exact HLz7_0);rintro e w' ⟨rfl,⟨nd,rfl⟩⟩;(try first | exact ⟨rfl,_,World.drewN_drewN _ _ _⟩ | exact ⟨rfl,_,Eq.trans (World.drewN_drewN _ _ _) (congrArg (World.drewN _) (Nat.add_assoc _ _ _))⟩)));try go_wp2_with (first | (go_at_call 38;(with_reducible refine (impl_GetNum.calls k _ _ s0_0 s0_1 t284 t285 false _ ?side1 ?side2 A2.out).mono ?_);(case side1 => repeat (first | exact HSz7_0 | exact Kd.C_below HSz7_0 (by repeat (first | (with_reducible first | exact HB.out | apply below_alloc | apply pw_below_drewN | apply below_drew1 | refine below_set ?_ (IsS40.ge HI0.out)) | exact HB.out)) | (with_reducible refine Kd.C_alloc ?_ _) | (with_reducible refine Kd.C_drewN ?_ _) | (with_reducible refine Kd.C_drew ?_)));(case side2 => exact HLz7_0);rintro e w' ⟨rfl,⟨nd,rfl⟩⟩;(try first | exact ⟨rfl,_,World.drewN_drewN _ _ _⟩ | exact ⟨rfl,_,Eq.trans (World.drewN_drewN _ _ _) (congrArg (World.drewN _) (Nat.add_assoc _ _ _))⟩))))
   go_ret
   exact ⟨by first | rfl | (simp [*,errW_none,errW_some] <;> rfl),by repeat (first | (with_reducible first | exact HI0.out | apply IsS40.alloc | apply IsS40.drewN | apply IsS40.drew | apply IsS40.set_1 | apply IsS40.set_2) | exact HI0.out),by repeat (first | (with_reducible first | exact HB.out | apply below_alloc | apply pw_below_drewN | apply below_drew1 | refine below_set ?_ (IsS40.ge HI0.out)) | exact HB.out),by repeat (first | (with_reducible first | exact HK.out | apply KeepBut.set_ | apply keep_drewN | apply keep_drew | apply keep_alloc) | exact HK.out)⟩

/-! ### impl_GetText: function 39 -/
def impl_GetText.f (k : Nat) (l0 : List Int) (a1 : Int) : Option (ByteArray × Int × Bool) := (impl_GetNum.f k l0 a1).bind fun bt287 => (if bt287.2.2 = true then (if bt287.1 < 0 then (some ((⟨#[]⟩ : ByteArray),0,false)) else (if bt287.1 > (wrap64 ((l0.length : Int) - bt287.2.1)) then (some ((⟨#[]⟩ : ByteArray),0,false)) else (if 0 ≤ bt287.2.1 then (if bt287.2.1 ≤ (wrap64 (bt287.2.1 + bt287.1)) then (if (wrap64 (bt287.2.1 + bt287.1)) ≤ (l0.length : Int) then (some (strOfNums ((l0.take ((wrap64 (bt287.2.1 + bt287.1)) : Int).toNat).drop (bt287.2.1 : Int).toNat),wrap64 (bt287.2.1 + bt287.1),true)) else (none)) else (none)) else (none)))) else (some ((⟨#[]⟩ : ByteArray),0,false)))
theorem impl_GetText.mono : ∀ a0 a1 k,LeO (impl_GetText.f k a0 a1) (impl_GetText.f (k + 1) a0 a1) := by
 intro a0 a1 k
 unfold impl_GetText.f
 repeat' first
   | (with_reducible exact impl_GetNum.mono _ _ _)
   | (with_reducible exact LeO.refl _)
   | (with_reducible exact LeO.none _)
   | (with_reducible refine LeO.ite ?_ ?_)
   | (with_reducible refine LeO.bind ?_ (fun _ => ?_))
   | exact impl_GetNum.mono _ _ _
   | exact LeO.none _
   | refine LeO.ite ?_ ?_
   | refine LeO.bind ?_ (fun _ => ?_)
set_option maxHeartbeats 8000000 in
set_option maxRecDepth 100000 in
theorem impl_GetText.calls (k : Nat) (A0 : Option Addr) (c0 : Nat) (l0 : List Int) (a1 : Int) (r1 : ByteArray) (r2 : Int) (r3 : Bool) (w : World) (hr0 : Kd.C (Kd.int .u8) w A0 l0.length l0) (hc0 : l0.length ≤ c0) (h : impl_GetText.f k l0 a1 = some (r1,r2,r3)) :
  Calls Try.prog 39 #[.slice A0 l0.length c0,.int .i64 a1] w fun e w' => e = .returned (.tuple #[.string r1,.int .i64 r2,.bool r3]) ∧ Drawn0 w w' := by
 have HR0 := Aside0.mk hr0
 have HC0 := Aside0.mk hc0
 clear hr0 hc0
 have H : ((impl_GetNum.f k l0 a1).bind fun bt287 => (if bt287.2.2 = true then (if bt287.1 < 0 then (some ((⟨#[]⟩ : ByteArray),0,false)) else (if bt287.1 > (wrap64 ((l0.length : Int) - bt287.2.1)) then (some ((⟨#[]⟩ : ByteArray),0,false)) else (if 0 ≤ bt287.2.1 then (if bt287.2.1 ≤ (wrap64 (bt287.2.1 + bt287.1)) then (if (wrap64 (bt287.2.1 + bt287.1)) ≤ (l0.length : Int) then (some (strOfNums ((l0.take ((wrap64 (bt287.2.1 + bt287.1)) : Int).toNat).drop (bt287.2.1 : Int).toNat),wrap64 (bt287.2.1 + bt287.1),true)) else (none)) else (none)) else (none)))) else (some ((⟨#[]⟩ : ByteArray),0,false)))) = some (r1,r2,r3) := h
 clear h
 replace H := Option.bind_eq_some_iff.mp H
 obtain ⟨⟨t287,t288,t289⟩,A30,H⟩ := H
 replace H : (if t289 = true then (if t287 < 0 then (some ((⟨#[]⟩ : ByteArray),0,false)) else (if t287 > (wrap64 ((l0.length : Int) - t288)) then (some ((⟨#[]⟩ : ByteArray),0,false)) else (if 0 ≤ t288 then (if t288 ≤ (wrap64 (t288 + t287)) then (if (wrap64 (t288 + t287)) ≤ (l0.length : Int) then (some (strOfNums ((l0.take ((wrap64 (t288 + t287)) : Int).toNat).drop (t288 : Int).toNat),wrap64 (t288 + t287),true)) else (none)) else (none)) else (none)))) else (some ((⟨#[]⟩ : ByteArray),0,false))) = some (r1,r2,r3) := H
 have A3 := Aside0.mk A30
 clear A30
 by_cases c4 : t289 = true
 ·subst c4
  have H1 : (if t287 < 0 then (some ((⟨#[]⟩ : ByteArray),0,false)) else (if t287 > (wrap64 ((l0.length : Int) - t288)) then (some ((⟨#[]⟩ : ByteArray),0,false)) else (if 0 ≤ t288 then (if t288 ≤ (wrap64 (t288 + t287)) then (if (wrap64 (t288 + t287)) ≤ (l0.length : Int) then (some (strOfNums ((l0.take ((wrap64 (t288 + t287)) : Int).toNat).drop (t288 : Int).toNat),wrap64 (t288 + t287),true)) else (none)) else (none)) else (none)))) = some (r1,r2,r3) := by rw [if_pos rfl] at H;exact H
  clear H
  have H := H1
  clear H1
  by_cases c5 : t287 < 0
  ·rw [if_pos c5] at H
   have c5b0 : decide (t287 < 0) = true := decide_eq_true c5
   clear c5
   simp only [Option.some.injEq,Prod.mk.injEq] at H
   obtain ⟨rfl,rfl,rfl⟩ := H
   go_enter Try.func39,Try.ntmps39
   go_wp2_with (first | ((with_reducible refine gate_callee (f := 38) rfl ?_);refine goesL_ (some 13) rfl rfl Try.func38 (by kernel_rfl) rfl #[.slice A0 l0.length c0,.int .i64 a1] rfl (by (try simp only [List.map_toArray,List.map_cons,List.map_nil]);first | done | rfl | (simp only [List.length_drop,List.length_take];rfl)) ?_;(with_reducible refine (impl_GetNum.calls k _ _ l0 a1 t287 t288 true _ ?side1 ?side2 A3.out).mono ?_);(case side1 => repeat (first | exact HR0.out | (with_reducible refine Kd.C_alloc ?_ _) | (with_reducible refine Kd.C_drewN ?_ _) | (with_reducible refine Kd.C_drew ?_)));(case side2 => exact HC0.out);rintro e w' ⟨rfl,⟨nd,rfl⟩⟩;refine ⟨_,rfl,?_⟩))
   go_ret3
   exact ⟨by first | rfl | (simp;done) | (simp [*];done),by repeat (first | exact Drawn0.refl _ | apply Drawn0.step)⟩
  ·rw [if_neg c5] at H
   have c5b0 : decide (t287 < 0) = false := decide_eq_false c5
   clear c5
   by_cases c6 : t287 > (wrap64 ((l0.length : Int) - t288))
   ·rw [if_pos c6] at H
    have c6b0 : decide ((wrap64 ((l0.length : Int) - t288)) < t287) = true := decide_eq_true c6
    clear c6
    simp only [Option.some.injEq,Prod.mk.injEq] at H
    obtain ⟨rfl,rfl,rfl⟩ := H
    go_enter Try.func39,Try.ntmps39
    go_wp2_with (first | ((with_reducible refine gate_callee (f := 38) rfl ?_);refine goesL_ (some 13) rfl rfl Try.func38 (by kernel_rfl) rfl #[.slice A0 l0.length c0,.int .i64 a1] rfl (by (try simp only [List.map_toArray,List.map_cons,List.map_nil]);first | done | rfl | (simp only [List.length_drop,List.length_take];rfl)) ?_;(with_reducible refine (impl_GetNum.calls k _ _ l0 a1 t287 t288 true _ ?side1 ?side2 A3.out).mono ?_);(case side1 => repeat (first | exact HR0.out | (with_reducible refine Kd.C_alloc ?_ _) | (with_reducible refine Kd.C_drewN ?_ _) | (with_reducible refine Kd.C_drew ?_)));(case side2 => exact HC0.out);rintro e w' ⟨rfl,⟨nd,rfl⟩⟩;refine ⟨_,rfl,?_⟩))
    go_ret3
    exact ⟨by first | rfl | (simp;done) | (simp [*];done),by repeat (first | exact Drawn0.refl _ | apply Drawn0.step)⟩
   ·rw [if_neg c6] at H
    have c6b0 : decide ((wrap64 ((l0.length : Int) - t288)) < t287) = false := decide_eq_false c6
    clear c6
    by_cases c7 : 0 ≤ t288
    ·rw [if_pos c7] at H
     have c7b0 := eq_true c7
     have c7b1 : decide (0 ≤ t288) = true := decide_eq_true c7
     clear c7
     by_cases c8 : t288 ≤ (wrap64 (t288 + t287))
     ·rw [if_pos c8] at H
      have c8b0 := eq_true c8
      have c8b1 : decide (t288 ≤ (wrap64 (t288 + t287))) = true := decide_eq_true c8
      by_cases c9 : (wrap64 (t288 + t287)) ≤ (l0.length : Int)
      ·rw [if_pos c9] at H
       have c9b0 := eq_true c9
       have c9b1 : decide ((wrap64 (t288 + t287)) ≤ (l0.length : Int)) = true := decide_eq_true c9
       obtain ⟨y290,hy290⟩ : ∃ y_ : List Int,y_ = ((l0.take ((wrap64 (t288 + t287)) : Int).toNat).drop (t288 : Int).toNat) := ⟨_,rfl⟩
       replace H : (some (strOfNums y290,wrap64 (t288 + t287),true)) = some (r1,r2,r3) := by first | (rw [hy290];with_reducible exact H) | (have H2_ := (Option.bind_some _ _).symm.trans H;rw [hy290];with_reducible exact H2_) | (have H2_ := (Option.bind_some _ _).symm.trans H;with_reducible exact H2_) | with_reducible exact H | (rw [hy290];exact H) | exact H
       have Ny290 := Aside0.mk hy290
       clear hy290
       simp only [Option.some.injEq,Prod.mk.injEq] at H
       obtain ⟨rfl,rfl,rfl⟩ := H
       go_enter Try.func39,Try.ntmps39
       go_wp2_with (first | ((with_reducible refine gate_callee (f := 38) rfl ?_);refine goesL_ (some 13) rfl rfl Try.func38 (by kernel_rfl) rfl #[.slice A0 l0.length c0,.int .i64 a1] rfl (by (try simp only [List.map_toArray,List.map_cons,List.map_nil]);first | done | rfl | (simp only [List.length_drop,List.length_take];rfl)) ?_;(with_reducible refine (impl_GetNum.calls k _ _ l0 a1 t287 t288 true _ ?side1 ?side2 A3.out).mono ?_);(case side1 => repeat (first | exact HR0.out | (with_reducible refine Kd.C_alloc ?_ _) | (with_reducible refine Kd.C_drewN ?_ _) | (with_reducible refine Kd.C_drew ?_)));(case side2 => exact HC0.out);rintro e w' ⟨rfl,⟨nd,rfl⟩⟩;refine ⟨_,rfl,?_⟩;have q10 : ((wrap64 (t288 + t287)) : Int) ≤ ((l0.length : Int) : Int) := of_decide_eq_true (by first | (with_reducible assumption) | assumption);obtain ⟨i010,hi010,_,hsz10,_⟩ := info_parts info5;have hroom10 : l0.length ≤ c0 := HC0.out;have hC10 : Kd.C (Kd.int .u8) _ A0 l0.length l0 := HR0.out;have ql10 : (t288 : Int) ≤ ((wrap64 (t288 + t287)) : Int) := of_decide_eq_true (by first | (with_reducible assumption) | assumption);have q010 : (0 : Int) ≤ (t288 : Int) := of_decide_eq_true (by first | (with_reducible assumption) | assumption);have hcut10 := cut_mid (P := Try.prog) 22 5 .i64 .i64 Try.underlying22 hi010 1 hsz10 A0 l0.length c0 t288 (wrap64 (t288 + t287)) q010 ql10 q10 hroom10;have hr10 := Kd.C_mid (lo := (t288 : Int).toNat) (hi := ((wrap64 (t288 + t287)) : Int).toNat) (c := c0) hC10 (by omega) (by omega) hroom10;obtain ⟨A10,hA10⟩ : ∃ A1,A1 = (if c0 = (t288 : Int).toNat then A0 else (A0 : Option Addr).map (·.add ((t288 : Int).toNat * 1))) := ⟨_,rfl⟩;obtain ⟨c10,hc10⟩ : ∃ c1,c1 = c0 - (t288 : Int).toNat := ⟨_,rfl⟩;have hy10 : y290.length = ((wrap64 (t288 + t287)) : Int).toNat - (t288 : Int).toNat := (by rw [Ny290.out,List.length_drop,List.length_take] <;> omega);rw [show ((l0).take ((wrap64 (t288 + t287)) : Int).toNat).drop (t288 : Int).toNat = y290 from Ny290.out.symm] at hr10;replace hr10 : Kd.C (Kd.int .u8) _ A10 y290.length y290 := (by rw [hA10];exact hr10);rw [← hy10,← hA10,← hc10] at hcut10;have HR293 := Aside0.mk hr10;have HC293 := Aside0.mk (show y290.length ≤ c10 from by rw [hy10,hc10];exact Nat.sub_le_sub_right (Nat.le_trans (by omega) hroom10) _);clear hr10 hC10 hroom10 hi010 hsz10 hc10;have KY10 := Aside0.mk hy10;have KA10 := Aside0.mk hA10;clear hy10 hA10;replace q10 := eq_true q10;have hcv11 := Kd.C_string (P := Try.prog) (A := A10) (c := c10) Try.underlying22 Try.underlying5 Try.underlying9 HR293.out;have hcv12 := fun m_ : Nat => Kd.C_string (P := Try.prog) (A := A10) (c := c10) Try.underlying22 Try.underlying5 Try.underlying9 (Kd.C_drewN HR293.out m_)))
       go_ret3
       exact ⟨by first | rfl | (simp;done) | (simp [*];done),by repeat (first | exact Drawn0.refl _ | apply Drawn0.step)⟩
      ·rw [if_neg c9] at H
       exact absurd H (by simp)
     ·rw [if_neg c8] at H
      exact absurd H (by simp)
    ·rw [if_neg c7] at H
     exact absurd H (by simp)
 ·replace c4 := Bool.eq_false_iff.mpr c4
  subst c4
  have H1 : (some ((⟨#[]⟩ : ByteArray),0,false)) = some (r1,r2,r3) := by rw [if_neg (show ¬ (false = true) by decide)] at H;exact H
  clear H
  have H := H1
  clear H1
  simp only [Option.some.injEq,Prod.mk.injEq] at H
  obtain ⟨rfl,rfl,rfl⟩ := H
  go_enter Try.func39,Try.ntmps39
  go_wp2_with (first | ((with_reducible refine gate_callee (f := 38) rfl ?_);refine goesL_ (some 13) rfl rfl Try.func38 (by kernel_rfl) rfl #[.slice A0 l0.length c0,.int .i64 a1] rfl (by (try simp only [List.map_toArray,List.map_cons,List.map_nil]);first | done | rfl | (simp only [List.length_drop,List.length_take];rfl)) ?_;(with_reducible refine (impl_GetNum.calls k _ _ l0 a1 t287 t288 false _ ?side1 ?side2 A3.out).mono ?_);(case side1 => repeat (first | exact HR0.out | (with_reducible refine Kd.C_alloc ?_ _) | (with_reducible refine Kd.C_drewN ?_ _) | (with_reducible refine Kd.C_drew ?_)));(case side2 => exact HC0.out);rintro e w' ⟨rfl,⟨nd,rfl⟩⟩;refine ⟨_,rfl,?_⟩))
  go_ret3
  exact ⟨by first | rfl | (simp;done) | (simp [*];done),by repeat (first | exact Drawn0.refl _ | apply Drawn0.step)⟩

/-! ### impl_getter_text: function 27 -/
def impl_getter_text.f (k : Nat) (s0_0 : List Int) (s0_1 : Int) (s0_2 : Bool) : Option (ByteArray × Int × Bool) := (impl_GetText.f k s0_0 s0_1).bind fun bt294 => (if s0_2 = true then (some ((⟨#[]⟩ : ByteArray),s0_1,true)) else (if bt294.2.2 = true then (some (bt294.1,bt294.2.1,s0_2)) else (some ((⟨#[]⟩ : ByteArray),s0_1,true))))
theorem impl_getter_text.mono : ∀ a0 a1 a2 k,LeO (impl_getter_text.f k a0 a1 a2) (impl_getter_text.f (k + 1) a0 a1 a2) := by
 intro a0 a1 a2 k
 unfold impl_getter_text.f
 repeat' first
   | (with_reducible exact impl_GetText.mono _ _ _)
   | (with_reducible exact LeO.refl _)
   | (with_reducible exact LeO.none _)
   | (with_reducible refine LeO.ite ?_ ?_)
   | (with_reducible refine LeO.bind ?_ (fun _ => ?_))
   | exact impl_GetText.mono _ _ _
   | exact LeO.none _
   | refine LeO.ite ?_ ?_
   | refine LeO.bind ?_ (fun _ => ?_)
set_option maxHeartbeats 8000000 in
set_option maxRecDepth 100000 in
theorem impl_getter_text.calls (k : Nat) (g : Nat) (s0_0 : List Int) (s0_1 : Int) (s0_2 : Bool) (r1 : ByteArray) (r2 : Int) (r3 : Bool) (w0 w : World) (hI : IsS40 w0 w g s0_0 s0_1 s0_2) (hB : Below w0.heap.size w0 w) (h : impl_getter_text.f k s0_0 s0_1 s0_2 = some (r1,r2,r3)) :
  Calls Try.prog 27 #[.pointer (some ⟨g,0,none⟩)] w fun e w' => e = .returned (.string r1) ∧ IsS40 w0 w' g s0_0 r2 r3 ∧ Below w0.heap.size w0 w' ∧ KeepBut w w' g none := by
 have HI0 := Aside0.mk hI
 have HK := Aside0.mk (KeepBut.refl w g none)
 have HL := Aside0.mk hB.size
 clear hI
 have HW0 := Aside0.mk hB.size
 have HB := Aside0.mk hB
 clear hB
 have H : ((impl_GetText.f k s0_0 s0_1).bind fun bt294 => (if s0_2 = true then (some ((⟨#[]⟩ : ByteArray),s0_1,true)) else (if bt294.2.2 = true then (some (bt294.1,bt294.2.1,s0_2)) else (some ((⟨#[]⟩ : ByteArray),s0_1,true))))) = some (r1,r2,r3) := h
 clear h
 replace H := Option.bind_eq_some_iff.mp H
 obtain ⟨⟨t294,t295,t296⟩,A20,H⟩ := H
 replace H : (if s0_2 = true then (some ((⟨#[]⟩ : ByteArray),s0_1,true)) else (if t296 = true then (some (t294,t295,s0_2)) else (some ((⟨#[]⟩ : ByteArray),s0_1,true)))) = some (r1,r2,r3) := H
 have A2 := Aside0.mk A20
 clear A20
 by_cases c3 : s0_2 = true
 ·subst c3
  have H1 : (some ((⟨#[]⟩ : ByteArray),s0_1,true)) = some (r1,r2,r3) := by rw [if_pos rfl] at H;exact H
  clear H
  have H := H1
  clear H1
  simp only [Option.some.injEq,Prod.mk.injEq] at H
  obtain ⟨rfl,rfl,rfl⟩ := H
  obtain ⟨ASz4_0,cSz4_0,HGz4,hgz4,⟨HSz4_0,HLz4_0⟩⟩ := HI0.out
  have hcz4_0 := cellS40_0 HGz4
  have hcz4_1 := cellS40_1 HGz4
  have hcz4_2 := cellS40_2 HGz4
  have hfz4_1 := blk_frozen HGz4 1
  have hfz4_2 := blk_frozen HGz4 2
  clear HGz4 hgz4
  go_enter Try.func27,Try.ntmps27
  go_wp2_with (first | (go_at_call 39;(with_reducible refine (impl_GetText.calls k _ _ s0_0 s0_1 t294 t295 t296 _ ?side1 ?side2 A2.out).mono ?_);(case side1 => repeat (first | exact HSz4_0 | exact Kd.C_below HSz4_0 (by repeat (first | (with_reducible first | exact HB.out | apply below_alloc | apply pw_below_drewN | apply below_drew1 | refine below_set ?_ (IsS40.ge HI0.out)) | exact HB.out)) | (with_reducible refine Kd.C_alloc ?_ _) | (with_reducible refine Kd.C_drewN ?_ _) | (with_reducible refine Kd.C_drew ?_)));(case side2 => exact HLz4_0);rintro e w' ⟨rfl,⟨nd,rfl⟩⟩;(try first | exact ⟨rfl,_,World.drewN_drewN _ _ _⟩ | exact ⟨rfl,_,Eq.trans (World.drewN_drewN _ _ _) (congrArg (World.drewN _) (Nat.add_assoc _ _ _))⟩)))
  repeat (go_quiet (first | (go_at_call 39;(with_reducible refine (impl_GetText.calls k _ _ s0_0 s0_1 t294 t295 t296 _ ?side1 ?side2 A2.out).mono ?_);(case side1 => repeat (first | exact HSz4_0 | exact Kd.C_below HSz4_0 (by repeat (first | (with_reducible first | exact HB.out | apply below_alloc | apply pw_below_drewN | apply below_drew1 | refine below_set ?_ (IsS40.ge HI0.out)) | exact HB.out)) | (with_reducible refine Kd.C_alloc ?_ _) | (with_reducible refine Kd.C_drewN ?_ _) | (with_reducible refine Kd.C_drew ?_)));(case side2 => exact HLz4_0);rintro e w' ⟨rfl,⟨nd,rfl⟩⟩;(try first | exact ⟨rfl,_,World.drewN_drewN _ _ _⟩ | exact ⟨rfl,_,Eq.trans (World.drewN_drewN _ _ _) (congrArg (World.drewN _) (Nat.add_assoc _ _ _))⟩)));try go_wp2_with (first | (go_at_call 39;(with_reducible refine (impl_GetText.calls k _ _ s0_0 s0_1 t294 t295 t296 _ ?side1 ?side2 A2.out).mono ?_);(case side1 => repeat (first | exact HSz4_0 | exact Kd.C_below HSz4_0 (by repeat (first | (with_reducible first | exact HB.out | apply below_alloc | apply pw_below_drewN | apply below_drew1 | refine below_set ?_ (IsS40.ge HI0.out)) | exact HB.out)) | (with_reducible refine Kd.C_alloc ?_ _) | (with_reducible refine Kd.C_drewN ?_ _) | (with_reducible refine Kd.C_drew ?_)));(case side2 => exact HLz4_0);rintro e w' ⟨rfl,⟨nd,rfl⟩⟩;(try first | exact ⟨rfl,_,World.drewN_drewN _ _ _⟩ | exact ⟨rfl,_,Eq.trans (World.drewN_drewN _ _ _) (congrArg (World.drewN _) (Nat.add_assoc _ _ _))⟩))))
  go_ret
  exact ⟨by first | rfl | (simp [*,errW_none,errW_some] <;> rfl),by repeat (first | (with_reducible first | exact HI0.out | apply IsS40.alloc | apply IsS40.drewN | apply IsS40.drew | apply IsS40.set_1 | apply IsS40.set_2) | exact HI0.out),by repeat (first | (with_reducible first | exact HB.out | apply below_alloc | apply pw_below_drewN | apply below_drew1 | refine below_set ?_ (IsS40.ge HI0.out)) | exact HB.out),by repeat (first | (with_reducible first | exact HK.out | apply KeepBut.set_ | apply keep_drewN | apply keep_drew | apply keep_alloc) | exact HK.out)⟩
 ·replace c3 := Bool.eq_false_iff.mpr c3
  subst c3
  have H1 : (if t296 = true then (some (t294,t295,false)) else (some ((⟨#[]⟩ : ByteArray),s0_1,true))) = some (r1,r2,r3) := by rw [if_neg (show ¬ (false = true) by decide)] at H;exact H
  clear H
  have H := H1
  clear H1
  by_cases c5 : t296 = true
  ·subst c5
   have H1 : (some (t294,t295,false)) = some (r1,r2,r3) := by rw [if_pos rfl] at H;exact H
   clear H
   have H := H1
   clear H1
   simp only [Option.some.injEq,Prod.mk.injEq] at H
   obtain ⟨rfl,rfl,rfl⟩ := H
   obtain ⟨ASz6_0,cSz6_0,HGz6,hgz6,⟨HSz6_0,HLz6_0⟩⟩ := HI0.out
   have hcz6_0 := cellS40_0 HGz6
   have hcz6_1 := cellS40_1 HGz6
   have hcz6_2 := cellS40_2 HGz6
   have hfz6_1 := blk_frozen HGz6 1
   have hfz6_2 := blk_frozen HGz6 2
   clear HGz6 hgz6
   go_enter Try.func27,Try.ntmps27
   go_wp2_with (first | (go_at_call 39;(with_reducible refine (impl_GetText.calls k _ _ s0_0 s0_1 t294 t295 true _ ?side1 ?side2 A2.out).mono ?_);(case side1 => repeat (first | exact HSz6_0 | exact Kd.C_below HSz6_0 (by repeat (first | (with_reducible first | exact HB.out | apply below_alloc | apply pw_below_drewN | apply below_drew1 | refine below_set ?_ (IsS40.ge HI0.out)) | exact HB.out)) | (with_reducible refine Kd.C_alloc ?_ _) | (with_reducible refine Kd.C_drewN ?_ _) | (with_reducible refine Kd.C_drew ?_)));(case side2 => exact HLz6_0);rintro e w' ⟨rfl,⟨nd,rfl⟩⟩;(try first | exact ⟨rfl,_,World.drewN_drewN _ _ _⟩ | exact ⟨rfl,_,Eq.trans (World.drewN_drewN _ _ _) (congrArg (World.drewN _) (Nat.add_assoc _ _ _))⟩)))
   repeat (go_quiet (first | (go_at_call 39;(with_reducible refine (impl_GetText.calls k _ _ s0_0 s0_1 t294 t295 true _ ?side1 ?side2 A2.out).mono ?_);(case side1 => repeat (first | exact HSz6_0 | exact Kd.C_below HSz6_0 (by repeat (first | (with_reducible first | exact HB.out | apply below_alloc | apply pw_below_drewN | apply below_drew1 | refine below_set ?_ (IsS40.ge HI0.out)) | exact HB.out)) | (with_reducible refine Kd.C_alloc ?_ _) | (with_reducible refine Kd.C_drewN ?_ _) | (with_reducible refine Kd.C_drew ?_)));(case side2 => exact HLz6_0);rintro e w' ⟨rfl,⟨nd,rfl⟩⟩;(try first | exact ⟨rfl,_,World.drewN_drewN _ _ _⟩ | exact ⟨rfl,_,Eq.trans (World.drewN_drewN _ _ _) (congrArg (World.drewN _) (Nat.add_assoc _ _ _))⟩)));try go_wp2_with (first | (go_at_call 39;(with_reducible refine (impl_GetText.calls k _ _ s0_0 s0_1 t294 t295 true _ ?side1 ?side2 A2.out).mono ?_);(case side1 => repeat (first | exact HSz6_0 | exact Kd.C_below HSz6_0 (by repeat (first | (with_reducible first | exact HB.out | apply below_alloc | apply pw_below_drewN | apply below_drew1 | refine below_set ?_ (IsS40.ge HI0.out)) | exact HB.out)) | (with_reducible refine Kd.C_alloc ?_ _) | (with_reducible refine Kd.C_drewN ?_ _) | (with_reducible refine Kd.C_drew ?_)));(case side2 => exact HLz6_0);rintro e w' ⟨rfl,⟨nd,rfl⟩⟩;(try first | exact ⟨rfl,_,World.drewN_drewN _ _ _⟩ | exact ⟨rfl,_,Eq.trans (World.drewN_drewN _ _ _) (congrArg (World.drewN _) (Nat.add_assoc _ _ _))⟩))))
   go_ret
   exact ⟨by first | rfl | (simp [*,errW_none,errW_some] <;> rfl),by repeat (first | (with_reducible first | exact HI0.out | apply IsS40.alloc | apply IsS40.drewN | apply IsS40.drew | apply IsS40.set_1 | apply IsS40.set_2) | exact HI0.out),by repeat (first | (with_reducible first | exact HB.out | apply below_alloc | apply pw_below_drewN | apply below_drew1 | refine below_set ?_ (IsS40.ge HI0.out)) | exact HB.out),by repeat (first | (with_reducible first | exact HK.out | apply KeepBut.set_ | apply keep_drewN | apply keep_drew | apply keep_alloc) | exact HK.out)⟩
  ·replace c5 := Bool.eq_false_iff.mpr c5
   subst c5
   have H1 : (some ((⟨#[]⟩ : ByteArray),s0_1,true)) = some (r1,r2,r3) := by rw [if_neg (show ¬ (false = true) by decide)] at H;exact H
   clear H
   have H := H1
   clear H1
   simp only [Option.some.injEq,Prod.mk.injEq] at H
   obtain ⟨rfl,rfl,rfl⟩ := H
   obtain ⟨ASz7_0,cSz7_0,HGz7,hgz7,⟨HSz7_0,HLz7_0⟩⟩ := HI0.out
   have hcz7_0 := cellS40_0 HGz7
   have hcz7_1 := cellS40_1 HGz7
   have hcz7_2 := cellS40_2 HGz7
   have hfz7_1 := blk_frozen HGz7 1
   have hfz7_2 := blk_frozen HGz7 2
   clear HGz7 hgz7
   go_enter Try.func27,Try.ntmps27
   go_wp2_with (first | (go_at_call 39;(with_reducible refine (impl_GetText.calls k _ _ s0_0 s0_1 t294 t295 false _ ?side1 ?side2 A2.out).mono ?_);(case side1 => repeat (first | exact HSz7_0 | exact Kd.C_below HSz7_0 (by repeat (first | (with_reducible first | exact HB.out | apply below_alloc | apply pw_below_drewN | apply below_drew1 | refine below_set ?_ (IsS40.ge HI0.out)) | exact HB.out)) | (with_reducible refine Kd.C_alloc ?_ _) | (with_reducible refine Kd.C_drewN ?_ _) | (with_reducible refine Kd.C_drew ?_)));(case side2 => exact HLz7_0);rintro e w' ⟨rfl,⟨nd,rfl⟩⟩;(try first | exact ⟨rfl,_,World.drewN_drewN _ _ _⟩ | exact ⟨rfl,_,Eq.trans (World.drewN_drewN _ _ _) (congrArg (World.drewN _) (Nat.add_assoc _ _ _))⟩)))
   repeat (go_quiet (first | (go_at_call 39;(with_reducible refine (impl_GetText.calls k _ _ s0_0 s0_1 t294 t295 false _ ?side1 ?side2 A2.out).mono ?_);(case side1 => repeat (first | exact HSz7_0 | exact Kd.C_below HSz7_0 (by repeat (first | (with_reducible first | exact HB.out | apply below_alloc | apply pw_below_drewN | apply below_drew1 | refine below_set ?_ (IsS40.ge HI0.out)) | exact HB.out)) | (with_reducible refine Kd.C_alloc ?_ _) | (with_reducible refine Kd.C_drewN ?_ _) | (with_reducible refine Kd.C_drew ?_)));(case side2 => exact HLz7_0);rintro e w' ⟨rfl,⟨nd,rfl⟩⟩;(try first | exact ⟨rfl,_,World.drewN_drewN _ _ _⟩ | exact ⟨rfl,_,Eq.trans (World.drewN_drewN _ _ _) (congrArg (World.drewN _) (Nat.add_assoc _ _ _))⟩)));try go_wp2_with (first | (go_at_call 39;(with_reducible refine (impl_GetText.calls k _ _ s0_0 s0_1 t294 t295 false _ ?side1 ?side2 A2.out).mono ?_);(case side1 => repeat (first | exact HSz7_0 | exact Kd.C_below HSz7_0 (by repeat (first | (with_reducible first | exact HB.out | apply below_alloc | apply pw_below_drewN | apply below_drew1 | refine below_set ?_ (IsS40.ge HI0.out)) | exact HB.out)) | (with_reducible refine Kd.C_alloc ?_ _) | (with_reducible refine Kd.C_drewN ?_ _) | (with_reducible refine Kd.C_drew ?_)));(case side2 => exact HLz7_0);rintro e w' ⟨rfl,⟨nd,rfl⟩⟩;(try first | exact ⟨rfl,_,World.drewN_drewN _ _ _⟩ | exact ⟨rfl,_,Eq.trans (World.drewN_drewN _ _ _) (congrArg (World.drewN _) (Nat.add_assoc _ _ _))⟩))))
   go_ret
   exact ⟨by first | rfl | (simp [*,errW_none,errW_some] <;> rfl),by repeat (first | (with_reducible first | exact HI0.out | apply IsS40.alloc | apply IsS40.drewN | apply IsS40.drew | apply IsS40.set_1 | apply IsS40.set_2) | exact HI0.out),by repeat (first | (with_reducible first | exact HB.out | apply below_alloc | apply pw_below_drewN | apply below_drew1 | refine below_set ?_ (IsS40.ge HI0.out)) | exact HB.out),by repeat (first | (with_reducible first | exact HK.out | apply KeepBut.set_ | apply keep_drewN | apply keep_drew | apply keep_alloc) | exact HK.out)⟩

/-! ### impl_getter_count: function 28 -/
def impl_getter_count.f (k : Nat) (s0_0 : List Int) (s0_1 : Int) (s0_2 : Bool) (a1 : Int) : Option (Int × Int × Bool) := (impl_getter_num.f k s0_0 s0_1 s0_2).bind fun bt297 => ((impl_inRange.f bt297.1 0 a1).bind fun t300 => (if t300 = true then (some (bt297.1,bt297.2.1,bt297.2.2)) else (some (0,bt297.2.1,true))))
theorem impl_getter_count.mono : ∀ a0 a1 a2 a3 k,LeO (impl_getter_count.f k a0 a1 a2 a3) (impl_getter_count.f (k + 1) a0 a1 a2 a3) := by
 intro a0 a1 a2 a3 k
 unfold impl_getter_count.f
 repeat' first
   | (with_reducible exact impl_getter_num.mono _ _ _ _)
   | (with_reducible exact LeO.refl _)
   | (with_reducible exact LeO.none _)
   | (with_reducible refine LeO.ite ?_ ?_)
   | (with_reducible refine LeO.bind ?_ (fun _ => ?_))
   | exact impl_getter_num.mono _ _ _ _
   | exact LeO.none _
   | refine LeO.ite ?_ ?_
   | refine LeO.bind ?_ (fun _ => ?_)
set_option maxHeartbeats 8000000 in
set_option maxRecDepth 100000 in
theorem impl_getter_count.calls (k : Nat) (g : Nat) (s0_0 : List Int) (s0_1 : Int) (s0_2 : Bool) (a1 : Int) (r1 : Int) (r2 : Int) (r3 : Bool) (w0 w : World) (hI : IsS40 w0 w g s0_0 s0_1 s0_2) (hB : Below w0.heap.size w0 w) (h : impl_getter_count.f k s0_0 s0_1 s0_2 a1 = some (r1,r2,r3)) :
  Calls Try.prog 28 #[.pointer (some ⟨g,0,none⟩),.int .i64 a1] w fun e w' => e = .returned (.int .i64 r1) ∧ IsS40 w0 w' g s0_0 r2 r3 ∧ Below w0.heap.size w0 w' ∧ KeepBut w w' g none := by
 have HI0 := Aside0.mk hI
 have HK := Aside0.mk (KeepBut.refl w g none)
 have HL := Aside0.mk hB.size
 clear hI
 have HW0 := Aside0.mk hB.size
 have HB := Aside0.mk hB
 clear hB
 have H : ((impl_getter_num.f k s0_0 s0_1 s0_2).bind fun bt297 => ((impl_inRange.f bt297.1 0 a1).bind fun t300 => (if t300 = true then (some (bt297.1,bt297.2.1,bt297.2.2)) else (some (0,bt297.2.1,true))))) = some (r1,r2,r3) := h
 clear h
 replace H := Option.bind_eq_some_iff.mp H
 obtain ⟨⟨t297,t298,t299⟩,A30,H⟩ := H
 replace H : ((impl_inRange.f t297 0 a1).bind fun t300 => (if t300 = true then (some (t297,t298,t299)) else (some (0,t298,true)))) = some (r1,r2,r3) := H
 have A3 := Aside0.mk A30
 clear A30
 replace H := Option.bind_eq_some_iff.mp H
 obtain ⟨t300,A40,H⟩ := H
 replace H : (if t300 = true then (some (t297,t298,t299)) else (some (0,t298,true))) = some (r1,r2,r3) := H
 have A4 := Aside0.mk A40
 clear A40
 by_cases c5 : t300 = true
 ·subst c5
  have H1 : (some (t297,t298,t299)) = some (r1,r2,r3) := by rw [if_pos rfl] at H;exact H
  clear H
  have H := H1
  clear H1
  simp only [Option.some.injEq,Prod.mk.injEq] at H
  obtain ⟨rfl,rfl,rfl⟩ := H
  go_enter Try.func28,Try.ntmps28
  go_wp2_with (first | ((with_reducible refine gate_callee (f := 26) rfl ?_);refine goesL_ (some 7) rfl rfl Try.func26 (by kernel_rfl) rfl #[.pointer (some ⟨g,0,none⟩)] rfl (by (try simp only [List.map_toArray,List.map_cons,List.map_nil]);first | done | rfl | (simp only [List.length_drop,List.length_take];rfl)) ?_;(with_reducible refine (impl_getter_num.calls k g s0_0 s0_1 s0_2 t297 t298 t299 w0 _ ?side1 ?side2 A3.out).mono ?_);(case side1 => repeat (first | (with_reducible first | exact HI0.out | apply IsS40.alloc | apply IsS40.drewN | apply IsS40.drew | apply IsS40.set_1 | apply IsS40.set_2) | exact HI0.out));(case side2 => repeat (first | (with_reducible first | exact HB.out | apply below_alloc | apply pw_below_drewN | apply below_drew1 | refine below_set ?_ (IsS40.ge HI0.out)) | exact HB.out));rintro e w6 ⟨rfl,hi,hb,hk⟩;refine ⟨_,rfl,?_⟩;have n0_ := Aside0.mk (KeepBut.trans (by repeat (first | (with_reducible first | exact HK.out | apply KeepBut.set_ | apply keep_drewN | apply keep_drew | apply keep_alloc) | exact HK.out)) hk (.inl rfl));have n1_ := Aside0.mk (hb);have n2_ := Aside0.mk (hi);clear HK;clear HB;clear HI0;have HK := n0_;have HB := n1_;have HI0 := n2_;clear n0_ n1_ n2_;(try clear hb);(try clear hb2);(try clear hk);(try clear hi)) | ((with_reducible refine gate_callee (f := 40) rfl ?_);refine goesL_ (some 10) rfl rfl Try.func40 (by kernel_rfl) rfl #[.int .i64 t297,.int .i64 0,.int .i64 a1] rfl (by (try simp only [List.map_toArray,List.map_cons,List.map_nil]);first | done | rfl | (simp only [List.length_drop,List.length_take];rfl)) ?_;(with_reducible refine (impl_inRange.calls t297 0 a1 true _ A4.out).mono ?_);rintro e w' ⟨rfl,⟨nd,rfl⟩⟩;refine ⟨_,rfl,?_⟩))
  go_ret
  exact ⟨by first | rfl | (simp [*,errW_none,errW_some] <;> rfl),by repeat (first | (with_reducible first | exact HI0.out | apply IsS40.alloc | apply IsS40.drewN | apply IsS40.drew | apply IsS40.set_1 | apply IsS40.set_2) | exact HI0.out),by repeat (first | (with_reducible first | exact HB.out | apply below_alloc | apply pw_below_drewN | apply below_drew1 | refine below_set ?_ (IsS40.ge HI0.out)) | exact HB.out),by repeat (first | (with_reducible first | exact HK.out | apply KeepBut.set_ | apply keep_drewN | apply keep_drew | apply keep_alloc) | exact HK.out)⟩
 ·replace c5 := Bool.eq_false_iff.mpr c5
  subst c5
  have H1 : (some (0,t298,true)) = some (r1,r2,r3) := by rw [if_neg (show ¬ (false = true) by decide)] at H;exact H
  clear H
  have H := H1
  clear H1
  simp only [Option.some.injEq,Prod.mk.injEq] at H
  obtain ⟨rfl,rfl,rfl⟩ := H
  go_enter Try.func28,Try.ntmps28
  go_wp2_with (first | ((with_reducible refine gate_callee (f := 26) rfl ?_);refine goesL_ (some 7) rfl rfl Try.func26 (by kernel_rfl) rfl #[.pointer (some ⟨g,0,none⟩)] rfl (by (try simp only [List.map_toArray,List.map_cons,List.map_nil]);first | done | rfl | (simp only [List.length_drop,List.length_take];rfl)) ?_;(with_reducible refine (impl_getter_num.calls k g s0_0 s0_1 s0_2 t297 t298 t299 w0 _ ?side1 ?side2 A3.out).mono ?_);(case side1 => repeat (first | (with_reducible first | exact HI0.out | apply IsS40.alloc | apply IsS40.drewN | apply IsS40.drew | apply IsS40.set_1 | apply IsS40.set_2) | exact HI0.out));(case side2 => repeat (first | (with_reducible first | exact HB.out | apply below_alloc | apply pw_below_drewN | apply below_drew1 | refine below_set ?_ (IsS40.ge HI0.out)) | exact HB.out));rintro e w7 ⟨rfl,hi,hb,hk⟩;refine ⟨_,rfl,?_⟩;have n0_ := Aside0.mk (KeepBut.trans (by repeat (first | (with_reducible first | exact HK.out | apply KeepBut.set_ | apply keep_drewN | apply keep_drew | apply keep_alloc) | exact HK.out)) hk (.inl rfl));have n1_ := Aside0.mk (hb);have n2_ := Aside0.mk (hi);clear HK;clear HB;clear HI0;have HK := n0_;have HB := n1_;have HI0 := n2_;clear n0_ n1_ n2_;(try clear hb);(try clear hb2);(try clear hk);(try clear hi)) | ((with_reducible refine gate_callee (f := 40) rfl ?_);refine goesL_ (some 10) rfl rfl Try.func40 (by kernel_rfl) rfl #[.int .i64 t297,.int .i64 0,.int .i64 a1] rfl (by (try simp only [List.map_toArray,List.map_cons,List.map_nil]);first | done | rfl | (simp only [List.length_drop,List.length_take];rfl)) ?_;(with_reducible refine (impl_inRange.calls t297 0 a1 false _ A4.out).mono ?_);rintro e w' ⟨rfl,⟨nd,rfl⟩⟩;refine ⟨_,rfl,?_⟩;(try (rw [drewN_self w7];generalize hq_ : World.drewN w7 _ = w7;have n0_ : Aside0 (IsS40 w0 w7 g s0_0 t298 t299) := ⟨by rw [← hq_];exact (by repeat (first | (with_reducible first | exact HI0.out | apply IsS40.alloc | apply IsS40.drewN | apply IsS40.drew | apply IsS40.set_1 | apply IsS40.set_2) | exact HI0.out))⟩;have n1_ : Aside0 (KeepBut w w7 g none) := ⟨by rw [← hq_];exact (by repeat (first | (with_reducible first | exact HK.out | apply KeepBut.set_ | apply keep_drewN | apply keep_drew | apply keep_alloc) | exact HK.out))⟩;have n2_ : Aside0 (Below w0.heap.size w0 w7) := ⟨by rw [← hq_];exact (by repeat (first | (with_reducible first | exact HB.out | apply below_alloc | apply pw_below_drewN | apply below_drew1 | refine below_set ?_ (IsS40.ge HI0.out)) | exact HB.out))⟩;clear HI0 HK HB hq_;have HI0 := n0_;have HK := n1_;have HB := n2_;clear n0_ n1_ n2_));obtain ⟨ASz8_0,cSz8_0,HGz8,hgz8,⟨HSz8_0,HLz8_0⟩⟩ := HI0.out;have hcz8_0 := cellS40_0 HGz8;have hcz8_1 := cellS40_1 HGz8;have hcz8_2 := cellS40_2 HGz8;have hfz8_1 := blk_frozen HGz8 1;have hfz8_2 := blk_frozen HGz8 2;clear HGz8 hgz8))
  go_ret
  exact ⟨by first | rfl | (simp [*,errW_none,errW_some] <;> rfl),by repeat (first | (with_reducible first | exact HI0.out | apply IsS40.alloc | apply IsS40.drewN | apply IsS40.drew | apply IsS40.set_1 | apply IsS40.set_2) | exact HI0.out),by repeat (first | (with_reducible first | exact HB.out | apply below_alloc | apply pw_below_drewN | apply below_drew1 | refine below_set ?_ (IsS40.ge HI0.out)) | exact HB.out),by repeat (first | (with_reducible first | exact HK.out | apply KeepBut.set_ | apply keep_drewN | apply keep_drew | apply keep_alloc) | exact HK.out)⟩

end Go.Proofs.Ytohafgndnpjfbaa.QFnReadTerms
