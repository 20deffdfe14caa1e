-- Written by a program of this workplace (print2.py) for this claim, over the print's words.
import Derived.Test.YtefkjmkmojmllaaQFnExactGetTermx0
namespace Go.Proofs.Ytefkjmkmojmllaa.QFnExactGetTerm
open Go.RowKit Go.Proofs.YtefkjmkmojmllaaW.PrintWords Go.Proofs.YtefkjmkmojmllaaW.PrintLast Go.Proofs.YtefkjmkmojmllaaW.PrintMore
attribute [local go_sem] max2_int min2_int max_two min_two max_three min_three max_four min_four   -- for this text's walks alone
set_option linter.unusedVariables false
set_option linter.unusedSimpArgs false

/-! ### spec_l1In: function 23 -/
def spec_l1In.f (a0:Int) (a1:Int) (a2:Int):Option (Bool):=if a0 ≥ a1 then (some (decide (a0≤a2))) else (some false)
set_option maxHeartbeats 8000000 in
set_option maxRecDepth 100000 in
theorem spec_l1In.calls (a0:Int) (a1:Int) (a2:Int) (r:Bool) (w:World) (h:spec_l1In.f a0 a1 a2 = some r) :
  Calls Try.prog 23 #[.int .i64 a0,.int .i64 a1,.int .i64 a2] w fun e w'=>e = .returned (.bool r)∧Drawn0 w w':=by
 have H:(if a0 ≥ a1 then (some (decide (a0≤a2))) else (some false)) = some r:=h;clear h
 by_cases c4:a0 ≥ a1
 ·rw [if_pos c4] at H
  have c4b0:decide (a1≤a0) = true:=decide_eq_true c4;clear c4;obtain rfl:=Option.some.inj H
  go_enter Try.func23,Try.ntmps23
  go_wp2
  go_ret
  exact ⟨cl2,by repeat (first|exact Drawn0.refl _|apply Drawn0.step)⟩
 ·rw [if_neg c4] at H
  have c4b0:decide (a1≤a0) = false:=decide_eq_false c4;clear c4;obtain rfl:=Option.some.inj H
  go_enter Try.func23,Try.ntmps23
  go_wp2
  go_ret
  exact ⟨cl2,by repeat (first|exact Drawn0.refl _|apply Drawn0.step)⟩

/-! ### spec_GetNum: function 21 -/
mutual
def spec_GetNum.l0:Nat → List Int → Int → Int → Int → Option (Int × Int × Bool)
 | 0,_,_,_,_=>none
 | k + 1,x0,x1,x7,x8=>if x8 < 6 then (if x1 ≥ 0 then (if x1 < (x0.length:Int) then (spec_GetNum.j1 k x0 x1 x7 x8 (decide ((wrap64 (x1 + x8)) < (x0.length:Int)))) else (spec_GetNum.j1 k x0 x1 x7 x8 false)) else (spec_GetNum.j1 k x0 x1 x7 x8 false)) else (spec_GetNum.j1 k x0 x1 x7 x8 false)
def spec_GetNum.j1:Nat → List Int → Int → Int → Int → Bool → Option (Int × Int × Bool)
 | 0,_,_,_,_,_=>none
 | k + 1,x0,x1,x7,x8,x30=>if x30 = true then (if 0≤(wrap64 (x1 + x8)) then (if (wrap64 (x1 + x8)) < (x0.length:Int) then (if 0≤(IntKind.u64.wrap (wrap64 (7 * x8))) then (if (wrap64 (rd x0 (wrap64 (x1 + x8)))) > 127 then (spec_GetNum.l0 k x0 x1 (Go.bits .or .i64 x7 (shl .i64 (Go.bits .and .i64 (wrap64 (rd x0 (wrap64 (x1 + x8)))) 127) (IntKind.u64.wrap (wrap64 (7 * x8))))) (wrap64 (x8 + 1))) else (if (Go.bits .and .i64 (Go.bits .or .i64 x7 (shl .i64 (Go.bits .and .i64 (wrap64 (rd x0 (wrap64 (x1 + x8)))) 127) (IntKind.u64.wrap (wrap64 (7 * x8))))) 1) = 1 then (if x8 > 0 then (if (wrap64 (rd x0 (wrap64 (x1 + x8)))) = 0 then (some (0,0,false)) else ((spec_l1In.f (wrap64 ((wrap64 (-((Go.bits .or .i64 x7 (shl .i64 (Go.bits .and .i64 (wrap64 (rd x0 (wrap64 (x1 + x8)))) 127) (IntKind.u64.wrap (wrap64 (7 * x8))))) / 2))) - 1)) (-1000000000000) 1000000000000).bind fun t102=>(if t102 = true then (some (wrap64 ((wrap64 (-((Go.bits .or .i64 x7 (shl .i64 (Go.bits .and .i64 (wrap64 (rd x0 (wrap64 (x1 + x8)))) 127) (IntKind.u64.wrap (wrap64 (7 * x8))))) / 2))) - 1),wrap64 ((wrap64 (x1 + x8)) + 1),true)) else (some (0,0,false))))) else ((spec_l1In.f (wrap64 ((wrap64 (-((Go.bits .or .i64 x7 (shl .i64 (Go.bits .and .i64 (wrap64 (rd x0 (wrap64 (x1 + x8)))) 127) (IntKind.u64.wrap (wrap64 (7 * x8))))) / 2))) - 1)) (-1000000000000) 1000000000000).bind fun t103=>(if t103 = true then (some (wrap64 ((wrap64 (-((Go.bits .or .i64 x7 (shl .i64 (Go.bits .and .i64 (wrap64 (rd x0 (wrap64 (x1 + x8)))) 127) (IntKind.u64.wrap (wrap64 (7 * x8))))) / 2))) - 1),wrap64 ((wrap64 (x1 + x8)) + 1),true)) else (some (0,0,false))))) else (if x8 > 0 then (if (wrap64 (rd x0 (wrap64 (x1 + x8)))) = 0 then (some (0,0,false)) else ((spec_l1In.f ((Go.bits .or .i64 x7 (shl .i64 (Go.bits .and .i64 (wrap64 (rd x0 (wrap64 (x1 + x8)))) 127) (IntKind.u64.wrap (wrap64 (7 * x8))))) / 2) (-1000000000000) 1000000000000).bind fun t104=>(if t104 = true then (some ((Go.bits .or .i64 x7 (shl .i64 (Go.bits .and .i64 (wrap64 (rd x0 (wrap64 (x1 + x8)))) 127) (IntKind.u64.wrap (wrap64 (7 * x8))))) / 2,wrap64 ((wrap64 (x1 + x8)) + 1),true)) else (some (0,0,false))))) else ((spec_l1In.f ((Go.bits .or .i64 x7 (shl .i64 (Go.bits .and .i64 (wrap64 (rd x0 (wrap64 (x1 + x8)))) 127) (IntKind.u64.wrap (wrap64 (7 * x8))))) / 2) (-1000000000000) 1000000000000).bind fun t105=>(if t105 = true then (some ((Go.bits .or .i64 x7 (shl .i64 (Go.bits .and .i64 (wrap64 (rd x0 (wrap64 (x1 + x8)))) 127) (IntKind.u64.wrap (wrap64 (7 * x8))))) / 2,wrap64 ((wrap64 (x1 + x8)) + 1),true)) else (some (0,0,false))))))) else (none)) else (none)) else (none)) else (some (0,0,false))
end
def spec_GetNum.f (k:Nat) (l0:List Int) (a1:Int):Option (Int × Int × Bool):=spec_GetNum.l0 k l0 a1 0 0
theorem spec_GetNum.mono_l:∀ k,(∀ y0 y1 y2 y3,LeO (spec_GetNum.l0 k y0 y1 y2 y3) (spec_GetNum.l0 (k + 1) y0 y1 y2 y3))∧(∀ y0 y1 y2 y3 y4,LeO (spec_GetNum.j1 k y0 y1 y2 y3 y4) (spec_GetNum.j1 (k + 1) y0 y1 y2 y3 y4))
 | 0=>⟨fun _ _ _ _ r h=>by simp [spec_GetNum.l0] at h,fun _ _ _ _ _ r h=>by simp [spec_GetNum.j1] at h⟩
 | k + 1=>by
  obtain ⟨ih0,ih1⟩:=spec_GetNum.mono_l k
  refine ⟨?_,?_⟩
  ·intro y0 y1 y2 y3
   unfold spec_GetNum.l0
   with_reducible repeat' first|apply ih0|apply ih1|apply LeO.refl|apply LeO.none|apply LeO.ite|refine LeO.bind ?_ (fun _=>?_)
  ·intro y0 y1 y2 y3 y4
   unfold spec_GetNum.j1
   with_reducible repeat' first|apply ih0|apply ih1|apply LeO.refl|apply LeO.none|apply LeO.ite|refine LeO.bind ?_ (fun _=>?_)
theorem spec_GetNum.mono:∀ a0 a1 k,LeO (spec_GetNum.f k a0 a1) (spec_GetNum.f (k + 1) a0 a1):=by
 intro a0 a1 k;obtain ⟨ih0,ih1⟩:=spec_GetNum.mono_l k
 unfold spec_GetNum.f
 with_reducible repeat' first|apply ih0|apply ih1|apply LeO.refl|apply LeO.none|apply LeO.ite|refine LeO.bind ?_ (fun _=>?_)
set_option maxHeartbeats 8000000 in
set_option maxRecDepth 100000 in
theorem spec_GetNum.calls (k:Nat) (A0:Option Addr) (c0:Nat) (l0:List Int) (a1:Int) (r1:Int) (r2:Int) (r3:Bool) (w:World) (hr0:Kd.C (Kd.int .u8) w A0 l0.length l0) (hc0:l0.length≤c0) (h:spec_GetNum.f k l0 a1 = some (r1,r2,r3)) :
  Calls Try.prog 21 #[.slice A0 l0.length c0,.int .i64 a1] w fun e w'=>e = .returned (.tuple #[.int .i64 r1,.int .i64 r2,.bool r3])∧Drawn0 w w':=by
 have HR0:=Aside0.mk hr0;have HC0:=Aside0.mk hc0;clear hr0 hc0;have H:(spec_GetNum.l0 k l0 a1 0 0) = some (r1,r2,r3):=h;clear h;have H':=Aside0.mk H;clear H
 go_enter Try.func21,Try.ntmps21
 go_wp2
 go_loopg [7,8] k (fun kq v7 v8 w'=>∃ (x7_1:Int) (x8_1:Int),v7 = .int .i64 x7_1∧v8 = .int .i64 x8_1∧Aside0 (spec_GetNum.l0 kq l0 a1 x7_1 x8_1 = some (r1,r2,r3))∧Aside0 (kq≤k)∧Drawn0 w w')
 case atStart=>exact ⟨(0),(0),(cl2),(cl2),H',⟨Nat.le_refl _⟩,by repeat (first|exact Drawn0.refl _|apply Drawn0.step)⟩
 case round =>
  clear H';obtain ⟨x7_1,x8_1,rfl,rfl,HA,HK1,⟨m1,rfl⟩⟩:=hrel
  cases gk with
  | zero=>exact absurd HA.out (by simp [spec_GetNum.l0])
  | succ k1 =>
   have H:=HA.out;clear HA;simp only [spec_GetNum.l0] at H;have HC3:=Aside0.mk H;clear H
   go_upto_region 3 with (fail)
   go_cut [30] (fun v30 wc=>∃ (kq:Nat) (x30_2:Bool),v30 = .bool x30_2∧Aside0 (spec_GetNum.j1 kq l0 a1 x7_1 x8_1 x30_2 = some (r1,r2,r3))∧Aside0 (kq≤k1)∧Drawn0 w wc)
   case first =>
    have H:=HC3.out;clear HC3
    by_cases c4:x8_1 < 6
    ·rw [if_pos c4] at H
     have c4b0:decide (x8_1 < 6) = true:=decide_eq_true c4;clear c4
     (first|rw [c4b0]|(simp only [i64_w,i32_w];rw [c4b0])|(simp only [c4b2,Bool.not_true,Bool.not_false])|skip)
     by_cases c5:a1 ≥ 0
     ·rw [if_pos c5] at H
      have c5b0:decide (0≤a1) = true:=decide_eq_true c5;clear c5
      by_cases c6:a1 < (l0.length:Int)
      ·rw [if_pos c6] at H
       have c6b0:decide (a1 < (l0.length:Int)) = true:=decide_eq_true c6;clear c6;have H':=Aside0.mk H;clear H
       go_wp2
       go_meet
       case rel=>exact ⟨_,(decide ((wrap64 (a1 + x8_1)) < (l0.length:Int))),(cl2),H',⟨by have:=HK1.out;first|omega|exact Nat.le_refl _⟩,by repeat (first|exact Drawn0.refl _|apply Drawn0.step)⟩
      ·rw [if_neg c6] at H
       have c6b0:decide (a1 < (l0.length:Int)) = false:=decide_eq_false c6;clear c6;have H':=Aside0.mk H;clear H
       go_wp2
       go_meet
       case rel=>exact ⟨_,(false),(cl2),H',⟨by have:=HK1.out;first|omega|exact Nat.le_refl _⟩,by repeat (first|exact Drawn0.refl _|apply Drawn0.step)⟩
     ·rw [if_neg c5] at H
      have c5b0:decide (0≤a1) = false:=decide_eq_false c5;clear c5;have H':=Aside0.mk H;clear H
      go_wp2
      go_meet
      case rel=>exact ⟨_,(false),(cl2),H',⟨by have:=HK1.out;first|omega|exact Nat.le_refl _⟩,by repeat (first|exact Drawn0.refl _|apply Drawn0.step)⟩
    ·rw [if_neg c4] at H
     have c4b0:decide (x8_1 < 6) = false:=decide_eq_false c4;clear c4
     (first|rw [c4b0]|(simp only [i64_w,i32_w];rw [c4b0])|(simp only [c4b2,Bool.not_true,Bool.not_false])|skip)
     have H':=Aside0.mk H;clear H
     go_wp2
     go_meet
     case rel=>exact ⟨_,(false),(cl2),H',⟨by have:=HK1.out;first|omega|exact Nat.le_refl _⟩,by repeat (first|exact Drawn0.refl _|apply Drawn0.step)⟩
   case rest =>
    clear HC3;(try clear p2);obtain ⟨kq,x30_2,rfl,HA,HJ2,⟨mc2,rfl⟩⟩:=hcut
    cases kq with
    | zero=>exact absurd HA.out (by simp [spec_GetNum.j1])
    | succ kj2 =>
     have H:=HA.out;clear HA;simp only [spec_GetNum.j1] at H
     by_cases c7:x30_2 = true
     ·subst c7
      have H1:(if 0≤(wrap64 (a1 + x8_1)) then (if (wrap64 (a1 + x8_1)) < (l0.length:Int) then (if 0≤(IntKind.u64.wrap (wrap64 (7 * x8_1))) then (if (wrap64 (rd l0 (wrap64 (a1 + x8_1)))) > 127 then (spec_GetNum.l0 kj2 l0 a1 (Go.bits .or .i64 x7_1 (shl .i64 (Go.bits .and .i64 (wrap64 (rd l0 (wrap64 (a1 + x8_1)))) 127) (IntKind.u64.wrap (wrap64 (7 * x8_1))))) (wrap64 (x8_1 + 1))) else (if (Go.bits .and .i64 (Go.bits .or .i64 x7_1 (shl .i64 (Go.bits .and .i64 (wrap64 (rd l0 (wrap64 (a1 + x8_1)))) 127) (IntKind.u64.wrap (wrap64 (7 * x8_1))))) 1) = 1 then (if x8_1 > 0 then (if (wrap64 (rd l0 (wrap64 (a1 + x8_1)))) = 0 then (some (0,0,false)) else ((spec_l1In.f (wrap64 ((wrap64 (-((Go.bits .or .i64 x7_1 (shl .i64 (Go.bits .and .i64 (wrap64 (rd l0 (wrap64 (a1 + x8_1)))) 127) (IntKind.u64.wrap (wrap64 (7 * x8_1))))) / 2))) - 1)) (-1000000000000) 1000000000000).bind fun t102=>(if t102 = true then (some (wrap64 ((wrap64 (-((Go.bits .or .i64 x7_1 (shl .i64 (Go.bits .and .i64 (wrap64 (rd l0 (wrap64 (a1 + x8_1)))) 127) (IntKind.u64.wrap (wrap64 (7 * x8_1))))) / 2))) - 1),wrap64 ((wrap64 (a1 + x8_1)) + 1),true)) else (some (0,0,false))))) else ((spec_l1In.f (wrap64 ((wrap64 (-((Go.bits .or .i64 x7_1 (shl .i64 (Go.bits .and .i64 (wrap64 (rd l0 (wrap64 (a1 + x8_1)))) 127) (IntKind.u64.wrap (wrap64 (7 * x8_1))))) / 2))) - 1)) (-1000000000000) 1000000000000).bind fun t103=>(if t103 = true then (some (wrap64 ((wrap64 (-((Go.bits .or .i64 x7_1 (shl .i64 (Go.bits .and .i64 (wrap64 (rd l0 (wrap64 (a1 + x8_1)))) 127) (IntKind.u64.wrap (wrap64 (7 * x8_1))))) / 2))) - 1),wrap64 ((wrap64 (a1 + x8_1)) + 1),true)) else (some (0,0,false))))) else (if x8_1 > 0 then (if (wrap64 (rd l0 (wrap64 (a1 + x8_1)))) = 0 then (some (0,0,false)) else ((spec_l1In.f ((Go.bits .or .i64 x7_1 (shl .i64 (Go.bits .and .i64 (wrap64 (rd l0 (wrap64 (a1 + x8_1)))) 127) (IntKind.u64.wrap (wrap64 (7 * x8_1))))) / 2) (-1000000000000) 1000000000000).bind fun t104=>(if t104 = true then (some ((Go.bits .or .i64 x7_1 (shl .i64 (Go.bits .and .i64 (wrap64 (rd l0 (wrap64 (a1 + x8_1)))) 127) (IntKind.u64.wrap (wrap64 (7 * x8_1))))) / 2,wrap64 ((wrap64 (a1 + x8_1)) + 1),true)) else (some (0,0,false))))) else ((spec_l1In.f ((Go.bits .or .i64 x7_1 (shl .i64 (Go.bits .and .i64 (wrap64 (rd l0 (wrap64 (a1 + x8_1)))) 127) (IntKind.u64.wrap (wrap64 (7 * x8_1))))) / 2) (-1000000000000) 1000000000000).bind fun t105=>(if t105 = true then (some ((Go.bits .or .i64 x7_1 (shl .i64 (Go.bits .and .i64 (wrap64 (rd l0 (wrap64 (a1 + x8_1)))) 127) (IntKind.u64.wrap (wrap64 (7 * x8_1))))) / 2,wrap64 ((wrap64 (a1 + x8_1)) + 1),true)) else (some (0,0,false))))))) else (none)) else (none)) else (none)) = some (r1,r2,r3):=by rw [if_pos rfl] at H;exact H
      clear H;have H:=H1;clear H1;obtain ⟨ji8,hji8⟩:∃ j_:Int,(wrap64 (a1 + x8_1)) = j_:=⟨_,rfl⟩;replace H:(if 0≤(ji8) then (if (ji8) < (l0.length:Int) then (if 0≤(IntKind.u64.wrap (wrap64 (7 * x8_1))) then (if (wrap64 (rd l0 (ji8))) > 127 then (spec_GetNum.l0 kj2 l0 a1 (Go.bits .or .i64 x7_1 (shl .i64 (Go.bits .and .i64 (wrap64 (rd l0 (ji8))) 127) (IntKind.u64.wrap (wrap64 (7 * x8_1))))) (wrap64 (x8_1 + 1))) else (if (Go.bits .and .i64 (Go.bits .or .i64 x7_1 (shl .i64 (Go.bits .and .i64 (wrap64 (rd l0 (ji8))) 127) (IntKind.u64.wrap (wrap64 (7 * x8_1))))) 1) = 1 then (if x8_1 > 0 then (if (wrap64 (rd l0 (ji8))) = 0 then (some (0,0,false)) else ((spec_l1In.f (wrap64 ((wrap64 (-((Go.bits .or .i64 x7_1 (shl .i64 (Go.bits .and .i64 (wrap64 (rd l0 (ji8))) 127) (IntKind.u64.wrap (wrap64 (7 * x8_1))))) / 2))) - 1)) (-1000000000000) 1000000000000).bind fun t102=>(if t102 = true then (some (wrap64 ((wrap64 (-((Go.bits .or .i64 x7_1 (shl .i64 (Go.bits .and .i64 (wrap64 (rd l0 (ji8))) 127) (IntKind.u64.wrap (wrap64 (7 * x8_1))))) / 2))) - 1),wrap64 ((ji8) + 1),true)) else (some (0,0,false))))) else ((spec_l1In.f (wrap64 ((wrap64 (-((Go.bits .or .i64 x7_1 (shl .i64 (Go.bits .and .i64 (wrap64 (rd l0 (ji8))) 127) (IntKind.u64.wrap (wrap64 (7 * x8_1))))) / 2))) - 1)) (-1000000000000) 1000000000000).bind fun t103=>(if t103 = true then (some (wrap64 ((wrap64 (-((Go.bits .or .i64 x7_1 (shl .i64 (Go.bits .and .i64 (wrap64 (rd l0 (ji8))) 127) (IntKind.u64.wrap (wrap64 (7 * x8_1))))) / 2))) - 1),wrap64 ((ji8) + 1),true)) else (some (0,0,false))))) else (if x8_1 > 0 then (if (wrap64 (rd l0 (ji8))) = 0 then (some (0,0,false)) else ((spec_l1In.f ((Go.bits .or .i64 x7_1 (shl .i64 (Go.bits .and .i64 (wrap64 (rd l0 (ji8))) 127) (IntKind.u64.wrap (wrap64 (7 * x8_1))))) / 2) (-1000000000000) 1000000000000).bind fun t104=>(if t104 = true then (some ((Go.bits .or .i64 x7_1 (shl .i64 (Go.bits .and .i64 (wrap64 (rd l0 (ji8))) 127) (IntKind.u64.wrap (wrap64 (7 * x8_1))))) / 2,wrap64 ((ji8) + 1),true)) else (some (0,0,false))))) else ((spec_l1In.f ((Go.bits .or .i64 x7_1 (shl .i64 (Go.bits .and .i64 (wrap64 (rd l0 (ji8))) 127) (IntKind.u64.wrap (wrap64 (7 * x8_1))))) / 2) (-1000000000000) 1000000000000).bind fun t105=>(if t105 = true then (some ((Go.bits .or .i64 x7_1 (shl .i64 (Go.bits .and .i64 (wrap64 (rd l0 (ji8))) 127) (IntKind.u64.wrap (wrap64 (7 * x8_1))))) / 2,wrap64 ((ji8) + 1),true)) else (some (0,0,false))))))) else (none)) else (none)) else (none)) = some (r1,r2,r3):=by first|(rw [hji8] at H;exact H)|(simp only [hji8] at H ⊢;exact H)
      have hji8w:(IntKind.i64.wrap (a1 + x8_1)) = ji8:=(i64_w _).trans hji8
      by_cases c9:0≤(ji8)
      ·rw [if_pos c9] at H
       have c9b0:decide (0≤(ji8)) = true:=decide_eq_true c9;clear c9
       by_cases c10:(ji8) < (l0.length:Int)
       ·rw [if_pos c10] at H
        have c10b0:decide ((ji8) < (l0.length:Int)) = true:=decide_eq_true c10;clear c10;obtain ⟨ji11,hji11⟩:∃ j_:Int,(IntKind.u64.wrap (wrap64 (7 * x8_1))) = j_:=⟨_,rfl⟩;replace H:(if 0≤(ji11) then (if (wrap64 (rd l0 (ji8))) > 127 then (spec_GetNum.l0 kj2 l0 a1 (Go.bits .or .i64 x7_1 (shl .i64 (Go.bits .and .i64 (wrap64 (rd l0 (ji8))) 127) (ji11))) (wrap64 (x8_1 + 1))) else (if (Go.bits .and .i64 (Go.bits .or .i64 x7_1 (shl .i64 (Go.bits .and .i64 (wrap64 (rd l0 (ji8))) 127) (ji11))) 1) = 1 then (if x8_1 > 0 then (if (wrap64 (rd l0 (ji8))) = 0 then (some (0,0,false)) else ((spec_l1In.f (wrap64 ((wrap64 (-((Go.bits .or .i64 x7_1 (shl .i64 (Go.bits .and .i64 (wrap64 (rd l0 (ji8))) 127) (ji11))) / 2))) - 1)) (-1000000000000) 1000000000000).bind fun t102=>(if t102 = true then (some (wrap64 ((wrap64 (-((Go.bits .or .i64 x7_1 (shl .i64 (Go.bits .and .i64 (wrap64 (rd l0 (ji8))) 127) (ji11))) / 2))) - 1),wrap64 ((ji8) + 1),true)) else (some (0,0,false))))) else ((spec_l1In.f (wrap64 ((wrap64 (-((Go.bits .or .i64 x7_1 (shl .i64 (Go.bits .and .i64 (wrap64 (rd l0 (ji8))) 127) (ji11))) / 2))) - 1)) (-1000000000000) 1000000000000).bind fun t103=>(if t103 = true then (some (wrap64 ((wrap64 (-((Go.bits .or .i64 x7_1 (shl .i64 (Go.bits .and .i64 (wrap64 (rd l0 (ji8))) 127) (ji11))) / 2))) - 1),wrap64 ((ji8) + 1),true)) else (some (0,0,false))))) else (if x8_1 > 0 then (if (wrap64 (rd l0 (ji8))) = 0 then (some (0,0,false)) else ((spec_l1In.f ((Go.bits .or .i64 x7_1 (shl .i64 (Go.bits .and .i64 (wrap64 (rd l0 (ji8))) 127) (ji11))) / 2) (-1000000000000) 1000000000000).bind fun t104=>(if t104 = true then (some ((Go.bits .or .i64 x7_1 (shl .i64 (Go.bits .and .i64 (wrap64 (rd l0 (ji8))) 127) (ji11))) / 2,wrap64 ((ji8) + 1),true)) else (some (0,0,false))))) else ((spec_l1In.f ((Go.bits .or .i64 x7_1 (shl .i64 (Go.bits .and .i64 (wrap64 (rd l0 (ji8))) 127) (ji11))) / 2) (-1000000000000) 1000000000000).bind fun t105=>(if t105 = true then (some ((Go.bits .or .i64 x7_1 (shl .i64 (Go.bits .and .i64 (wrap64 (rd l0 (ji8))) 127) (ji11))) / 2,wrap64 ((ji8) + 1),true)) else (some (0,0,false))))))) else (none)) = some (r1,r2,r3):=by first|(rw [hji11] at H;exact H)|(simp only [hji11] at H ⊢;exact H)
        by_cases c12:0≤(ji11)
        ·rw [if_pos c12] at H
         have c12b0:=eq_true c12;have c12b1:decide (0≤(ji11)) = true:=decide_eq_true c12;clear c12;obtain ⟨ji13,hji13⟩:∃ j_:Int,(shl .i64 (Go.bits .and .i64 (wrap64 (rd l0 (ji8))) 127) (ji11)) = j_:=⟨_,rfl⟩;replace H:(if (wrap64 (rd l0 (ji8))) > 127 then (spec_GetNum.l0 kj2 l0 a1 (Go.bits .or .i64 x7_1 (ji13)) (wrap64 (x8_1 + 1))) else (if (Go.bits .and .i64 (Go.bits .or .i64 x7_1 (ji13)) 1) = 1 then (if x8_1 > 0 then (if (wrap64 (rd l0 (ji8))) = 0 then (some (0,0,false)) else ((spec_l1In.f (wrap64 ((wrap64 (-((Go.bits .or .i64 x7_1 (ji13)) / 2))) - 1)) (-1000000000000) 1000000000000).bind fun t102=>(if t102 = true then (some (wrap64 ((wrap64 (-((Go.bits .or .i64 x7_1 (ji13)) / 2))) - 1),wrap64 ((ji8) + 1),true)) else (some (0,0,false))))) else ((spec_l1In.f (wrap64 ((wrap64 (-((Go.bits .or .i64 x7_1 (ji13)) / 2))) - 1)) (-1000000000000) 1000000000000).bind fun t103=>(if t103 = true then (some (wrap64 ((wrap64 (-((Go.bits .or .i64 x7_1 (ji13)) / 2))) - 1),wrap64 ((ji8) + 1),true)) else (some (0,0,false))))) else (if x8_1 > 0 then (if (wrap64 (rd l0 (ji8))) = 0 then (some (0,0,false)) else ((spec_l1In.f ((Go.bits .or .i64 x7_1 (ji13)) / 2) (-1000000000000) 1000000000000).bind fun t104=>(if t104 = true then (some ((Go.bits .or .i64 x7_1 (ji13)) / 2,wrap64 ((ji8) + 1),true)) else (some (0,0,false))))) else ((spec_l1In.f ((Go.bits .or .i64 x7_1 (ji13)) / 2) (-1000000000000) 1000000000000).bind fun t105=>(if t105 = true then (some ((Go.bits .or .i64 x7_1 (ji13)) / 2,wrap64 ((ji8) + 1),true)) else (some (0,0,false))))))) = some (r1,r2,r3):=by first|(rw [hji13] at H;exact H)|(simp only [hji13] at H ⊢;exact H)
         have hji13_:(IntKind.i64.wrap ((Go.bits .and .i64 (wrap64 (rd l0 (ji8))) 127) * 2 ^ min (ji11).toNat 64)) = ji13:=hji13;have hji13z:(ji11)≤64 → (IntKind.i64.wrap ((Go.bits .and .i64 (wrap64 (rd l0 (ji8))) 127) * 2 ^ (ji11).toNat)) = ji13:=shl_small hji13;have hji13y:(wrap64 ((Go.bits .and .i64 (wrap64 (rd l0 (ji8))) 127) * 2 ^ min (ji11).toNat 64)) = ji13:=(i64_w _).symm.trans hji13_;have hji13x:(ji11)≤64 → (wrap64 ((Go.bits .and .i64 (wrap64 (rd l0 (ji8))) 127) * 2 ^ (ji11).toNat)) = ji13:=fun h_=>(i64_w _).symm.trans (hji13z h_)
         by_cases c14:(wrap64 (rd l0 (ji8))) > 127
         ·rw [if_pos c14] at H
          have c14b0:decide (127 < (wrap64 (rd l0 (ji8)))) = true:=decide_eq_true c14;clear c14;have H':=Aside0.mk H;clear H;have p101:0≤((ji8):Int):=od;have q101:(ji8) < (l0.length:Int):=od;obtain ⟨ad101,e101,hx101_0⟩:=Kd.at_int HR0.out (ji8) p101 q101;cases e101;replace p101:=eq_true p101;replace q101:=eq_true q101
          go_wp2
          go_roundg kj2
          case measure=>have:=HK1.out;have:=HJ2.out;omega
          case rel=>exact ⟨(Go.bits .or .i64 x7_1 (ji13)),(wrap64 (x8_1 + 1)),(by first|rfl|(simp;done)|(simp only [← hji13] <;> (first|rfl|simp))|(simp [*];done)),(cl2),H',⟨by have:=HK1.out;have:=HJ2.out;omega⟩,by repeat (first|exact Drawn0.refl _|apply Drawn0.step)⟩
         ·rw [if_neg c14] at H
          have c14b0:decide (127 < (wrap64 (rd l0 (ji8)))) = false:=decide_eq_false c14;clear c14
          by_cases c15:(Go.bits .and .i64 (Go.bits .or .i64 x7_1 (ji13)) 1) = 1
          ·rw [if_pos c15] at H
           have c15b0:((Go.bits .and .i64 (Go.bits .or .i64 x7_1 (ji13)) 1) == 1) = true:=beq_iff_eq.mpr c15;have c15b1:((Go.bits .and .i64 (Go.bits .or .i64 x7_1 (ji13)) 1) != 1) = false:=bne_eq_false_iff_eq.mpr c15;clear c15
           by_cases c16:x8_1 > 0
           ·rw [if_pos c16] at H
            have c16b0:decide (0 < x8_1) = true:=decide_eq_true c16;clear c16
            by_cases c17:(wrap64 (rd l0 (ji8))) = 0
            ·rw [if_pos c17] at H
             have c17b0:((wrap64 (rd l0 (ji8))) == 0) = true:=beq_iff_eq.mpr c17;have c17b1:((wrap64 (rd l0 (ji8))) != 0) = false:=bne_eq_false_iff_eq.mpr c17;clear c17;simp only [Option.some.injEq,Prod.mk.injEq] at H;obtain ⟨rfl,rfl,rfl⟩:=H;have p101:0≤((ji8):Int):=od;have q101:(ji8) < (l0.length:Int):=od;obtain ⟨ad101,e101,hx101_0⟩:=Kd.at_int HR0.out (ji8) p101 q101;cases e101;replace p101:=eq_true p101;replace q101:=eq_true q101
             go_wp2
             go_ret3
             exact ⟨by first|rfl|(simp;done)|(simp only [← hji8,← hji11,← hji13] <;> (first|rfl|simp))|(simp [*];done),by repeat (first|exact Drawn0.refl _|apply Drawn0.step)⟩
            ·rw [if_neg c17] at H
             have c17b0:((wrap64 (rd l0 (ji8))) == 0) = false:=beq_eq_false_iff_ne.mpr c17;have c17b1:((wrap64 (rd l0 (ji8))) != 0) = true:=bne_iff_ne.mpr c17;replace H:=Option.bind_eq_some_iff.mp H;obtain ⟨t102,A180,H⟩:=H;replace H:(if t102 = true then (some (wrap64 ((wrap64 (-((Go.bits .or .i64 x7_1 (ji13)) / 2))) - 1),wrap64 ((ji8) + 1),true)) else (some (0,0,false))) = some (r1,r2,r3):=H;have A18:=Aside0.mk A180;clear A180
             by_cases c19:t102 = true
             ·subst c19
              have H1:(some (wrap64 ((wrap64 (-((Go.bits .or .i64 x7_1 (ji13)) / 2))) - 1),wrap64 ((ji8) + 1),true)) = some (r1,r2,r3):=by rw [if_pos rfl] at H;exact H
              clear H;have H:=H1;clear H1;simp only [Option.some.injEq,Prod.mk.injEq] at H;obtain ⟨rfl,rfl,rfl⟩:=H;have p101:0≤((ji8):Int):=od;have q101:(ji8) < (l0.length:Int):=od;obtain ⟨ad101,e101,hx101_0⟩:=Kd.at_int HR0.out (ji8) p101 q101;cases e101;replace p101:=eq_true p101;replace q101:=eq_true q101
              go_wp2_with (first|(go_at_call 23;(with_reducible refine (spec_l1In.calls (wrap64 ((wrap64 (-((Go.bits .or .i64 x7_1 (ji13)) / 2))) - 1)) (-1000000000000) 1000000000000 true _ A18.out).mono ?_);rintro e w' ⟨rfl,⟨nd,rfl⟩⟩))
              go_ret3
              exact ⟨by first|rfl|(simp;done)|(simp only [← hji8,← hji11,← hji13] <;> (first|rfl|simp))|(simp [*];done),by repeat (first|exact Drawn0.refl _|apply Drawn0.step)⟩
             ·replace c19:=Bool.eq_false_iff.mpr c19
              subst c19;have H1:(some (0,0,false)) = some (r1,r2,r3):=by rw [if_neg (show ¬ (false = true) by decide)] at H;exact H
              clear H;have H:=H1;clear H1;simp only [Option.some.injEq,Prod.mk.injEq] at H;obtain ⟨rfl,rfl,rfl⟩:=H;have p101:0≤((ji8):Int):=od;have q101:(ji8) < (l0.length:Int):=od;obtain ⟨ad101,e101,hx101_0⟩:=Kd.at_int HR0.out (ji8) p101 q101;cases e101;replace p101:=eq_true p101;replace q101:=eq_true q101
              go_wp2_with (first|(go_at_call 23;(with_reducible refine (spec_l1In.calls (wrap64 ((wrap64 (-((Go.bits .or .i64 x7_1 (ji13)) / 2))) - 1)) (-1000000000000) 1000000000000 false _ A18.out).mono ?_);rintro e w' ⟨rfl,⟨nd,rfl⟩⟩))
              go_ret3
              exact ⟨by first|rfl|(simp;done)|(simp only [← hji8,← hji11,← hji13] <;> (first|rfl|simp))|(simp [*];done),by repeat (first|exact Drawn0.refl _|apply Drawn0.step)⟩
           ·rw [if_neg c16] at H
            have c16b0:decide (0 < x8_1) = false:=decide_eq_false c16;clear c16;replace H:=Option.bind_eq_some_iff.mp H;obtain ⟨t103,A200,H⟩:=H;replace H:(if t103 = true then (some (wrap64 ((wrap64 (-((Go.bits .or .i64 x7_1 (ji13)) / 2))) - 1),wrap64 ((ji8) + 1),true)) else (some (0,0,false))) = some (r1,r2,r3):=H;have A20:=Aside0.mk A200;clear A200
            by_cases c21:t103 = true
            ·subst c21
             have H1:(some (wrap64 ((wrap64 (-((Go.bits .or .i64 x7_1 (ji13)) / 2))) - 1),wrap64 ((ji8) + 1),true)) = some (r1,r2,r3):=by rw [if_pos rfl] at H;exact H
             clear H;have H:=H1;clear H1;simp only [Option.some.injEq,Prod.mk.injEq] at H;obtain ⟨rfl,rfl,rfl⟩:=H;have p101:0≤((ji8):Int):=od;have q101:(ji8) < (l0.length:Int):=od;obtain ⟨ad101,e101,hx101_0⟩:=Kd.at_int HR0.out (ji8) p101 q101;cases e101;replace p101:=eq_true p101;replace q101:=eq_true q101
             go_wp2_with (first|(go_at_call 23;(with_reducible refine (spec_l1In.calls (wrap64 ((wrap64 (-((Go.bits .or .i64 x7_1 (ji13)) / 2))) - 1)) (-1000000000000) 1000000000000 true _ A20.out).mono ?_);rintro e w' ⟨rfl,⟨nd,rfl⟩⟩))
             go_ret3
             exact ⟨by first|rfl|(simp;done)|(simp only [← hji8,← hji11,← hji13] <;> (first|rfl|simp))|(simp [*];done),by repeat (first|exact Drawn0.refl _|apply Drawn0.step)⟩
            ·replace c21:=Bool.eq_false_iff.mpr c21
             subst c21;have H1:(some (0,0,false)) = some (r1,r2,r3):=by rw [if_neg (show ¬ (false = true) by decide)] at H;exact H
             clear H;have H:=H1;clear H1;simp only [Option.some.injEq,Prod.mk.injEq] at H;obtain ⟨rfl,rfl,rfl⟩:=H;have p101:0≤((ji8):Int):=od;have q101:(ji8) < (l0.length:Int):=od;obtain ⟨ad101,e101,hx101_0⟩:=Kd.at_int HR0.out (ji8) p101 q101;cases e101;replace p101:=eq_true p101;replace q101:=eq_true q101
             go_wp2_with (first|(go_at_call 23;(with_reducible refine (spec_l1In.calls (wrap64 ((wrap64 (-((Go.bits .or .i64 x7_1 (ji13)) / 2))) - 1)) (-1000000000000) 1000000000000 false _ A20.out).mono ?_);rintro e w' ⟨rfl,⟨nd,rfl⟩⟩))
             go_ret3
             exact ⟨by first|rfl|(simp;done)|(simp only [← hji8,← hji11,← hji13] <;> (first|rfl|simp))|(simp [*];done),by repeat (first|exact Drawn0.refl _|apply Drawn0.step)⟩
          ·rw [if_neg c15] at H
           have c15b0:((Go.bits .and .i64 (Go.bits .or .i64 x7_1 (ji13)) 1) == 1) = false:=beq_eq_false_iff_ne.mpr c15;have c15b1:((Go.bits .and .i64 (Go.bits .or .i64 x7_1 (ji13)) 1) != 1) = true:=bne_iff_ne.mpr c15
           by_cases c22:x8_1 > 0
           ·rw [if_pos c22] at H
            have c22b0:decide (0 < x8_1) = true:=decide_eq_true c22;clear c22
            by_cases c23:(wrap64 (rd l0 (ji8))) = 0
            ·rw [if_pos c23] at H
             have c23b0:((wrap64 (rd l0 (ji8))) == 0) = true:=beq_iff_eq.mpr c23;have c23b1:((wrap64 (rd l0 (ji8))) != 0) = false:=bne_eq_false_iff_eq.mpr c23;clear c23;simp only [Option.some.injEq,Prod.mk.injEq] at H;obtain ⟨rfl,rfl,rfl⟩:=H;have p101:0≤((ji8):Int):=od;have q101:(ji8) < (l0.length:Int):=od;obtain ⟨ad101,e101,hx101_0⟩:=Kd.at_int HR0.out (ji8) p101 q101;cases e101;replace p101:=eq_true p101;replace q101:=eq_true q101
             go_wp2
             go_ret3
             exact ⟨by first|rfl|(simp;done)|(simp only [← hji8,← hji11,← hji13] <;> (first|rfl|simp))|(simp [*];done),by repeat (first|exact Drawn0.refl _|apply Drawn0.step)⟩
            ·rw [if_neg c23] at H
             have c23b0:((wrap64 (rd l0 (ji8))) == 0) = false:=beq_eq_false_iff_ne.mpr c23;have c23b1:((wrap64 (rd l0 (ji8))) != 0) = true:=bne_iff_ne.mpr c23;replace H:=Option.bind_eq_some_iff.mp H;obtain ⟨t104,A240,H⟩:=H;replace H:(if t104 = true then (some ((Go.bits .or .i64 x7_1 (ji13)) / 2,wrap64 ((ji8) + 1),true)) else (some (0,0,false))) = some (r1,r2,r3):=H;have A24:=Aside0.mk A240;clear A240
             by_cases c25:t104 = true
             ·subst c25
              have H1:(some ((Go.bits .or .i64 x7_1 (ji13)) / 2,wrap64 ((ji8) + 1),true)) = some (r1,r2,r3):=by rw [if_pos rfl] at H;exact H
              clear H;have H:=H1;clear H1;simp only [Option.some.injEq,Prod.mk.injEq] at H;obtain ⟨rfl,rfl,rfl⟩:=H;have p101:0≤((ji8):Int):=od;have q101:(ji8) < (l0.length:Int):=od;obtain ⟨ad101,e101,hx101_0⟩:=Kd.at_int HR0.out (ji8) p101 q101;cases e101;replace p101:=eq_true p101;replace q101:=eq_true q101
              go_wp2_with (first|(go_at_call 23;(with_reducible refine (spec_l1In.calls ((Go.bits .or .i64 x7_1 (ji13)) / 2) (-1000000000000) 1000000000000 true _ A24.out).mono ?_);rintro e w' ⟨rfl,⟨nd,rfl⟩⟩))
              go_ret3
              exact ⟨by first|rfl|(simp;done)|(simp only [← hji8,← hji11,← hji13] <;> (first|rfl|simp))|(simp [*];done),by repeat (first|exact Drawn0.refl _|apply Drawn0.step)⟩
             ·replace c25:=Bool.eq_false_iff.mpr c25
              subst c25;have H1:(some (0,0,false)) = some (r1,r2,r3):=by rw [if_neg (show ¬ (false = true) by decide)] at H;exact H
              clear H;have H:=H1;clear H1;simp only [Option.some.injEq,Prod.mk.injEq] at H;obtain ⟨rfl,rfl,rfl⟩:=H;have p101:0≤((ji8):Int):=od;have q101:(ji8) < (l0.length:Int):=od;obtain ⟨ad101,e101,hx101_0⟩:=Kd.at_int HR0.out (ji8) p101 q101;cases e101;replace p101:=eq_true p101;replace q101:=eq_true q101
              go_wp2_with (first|(go_at_call 23;(with_reducible refine (spec_l1In.calls ((Go.bits .or .i64 x7_1 (ji13)) / 2) (-1000000000000) 1000000000000 false _ A24.out).mono ?_);rintro e w' ⟨rfl,⟨nd,rfl⟩⟩))
              go_ret3
              exact ⟨by first|rfl|(simp;done)|(simp only [← hji8,← hji11,← hji13] <;> (first|rfl|simp))|(simp [*];done),by repeat (first|exact Drawn0.refl _|apply Drawn0.step)⟩
           ·rw [if_neg c22] at H
            have c22b0:decide (0 < x8_1) = false:=decide_eq_false c22;clear c22;replace H:=Option.bind_eq_some_iff.mp H;obtain ⟨t105,A260,H⟩:=H;replace H:(if t105 = true then (some ((Go.bits .or .i64 x7_1 (ji13)) / 2,wrap64 ((ji8) + 1),true)) else (some (0,0,false))) = some (r1,r2,r3):=H;have A26:=Aside0.mk A260;clear A260
            by_cases c27:t105 = true
            ·subst c27
             have H1:(some ((Go.bits .or .i64 x7_1 (ji13)) / 2,wrap64 ((ji8) + 1),true)) = some (r1,r2,r3):=by rw [if_pos rfl] at H;exact H
             clear H;have H:=H1;clear H1;simp only [Option.some.injEq,Prod.mk.injEq] at H;obtain ⟨rfl,rfl,rfl⟩:=H;have p101:0≤((ji8):Int):=od;have q101:(ji8) < (l0.length:Int):=od;obtain ⟨ad101,e101,hx101_0⟩:=Kd.at_int HR0.out (ji8) p101 q101;cases e101;replace p101:=eq_true p101;replace q101:=eq_true q101
             go_wp2_with (first|(go_at_call 23;(with_reducible refine (spec_l1In.calls ((Go.bits .or .i64 x7_1 (ji13)) / 2) (-1000000000000) 1000000000000 true _ A26.out).mono ?_);rintro e w' ⟨rfl,⟨nd,rfl⟩⟩))
             go_ret3
             exact ⟨by first|rfl|(simp;done)|(simp only [← hji8,← hji11,← hji13] <;> (first|rfl|simp))|(simp [*];done),by repeat (first|exact Drawn0.refl _|apply Drawn0.step)⟩
            ·replace c27:=Bool.eq_false_iff.mpr c27
             subst c27;have H1:(some (0,0,false)) = some (r1,r2,r3):=by rw [if_neg (show ¬ (false = true) by decide)] at H;exact H
             clear H;have H:=H1;clear H1;simp only [Option.some.injEq,Prod.mk.injEq] at H;obtain ⟨rfl,rfl,rfl⟩:=H;have p101:0≤((ji8):Int):=od;have q101:(ji8) < (l0.length:Int):=od;obtain ⟨ad101,e101,hx101_0⟩:=Kd.at_int HR0.out (ji8) p101 q101;cases e101;replace p101:=eq_true p101;replace q101:=eq_true q101
             go_wp2_with (first|(go_at_call 23;(with_reducible refine (spec_l1In.calls ((Go.bits .or .i64 x7_1 (ji13)) / 2) (-1000000000000) 1000000000000 false _ A26.out).mono ?_);rintro e w' ⟨rfl,⟨nd,rfl⟩⟩))
             go_ret3
             exact ⟨by first|rfl|(simp;done)|(simp only [← hji8,← hji11,← hji13] <;> (first|rfl|simp))|(simp [*];done),by repeat (first|exact Drawn0.refl _|apply Drawn0.step)⟩
        ·rw [if_neg c12] at H
         exact absurd H (by simp)
       ·rw [if_neg c10] at H
        exact absurd H (by simp)
      ·rw [if_neg c9] at H
       exact absurd H (by simp)
     ·replace c7:=Bool.eq_false_iff.mpr c7
      subst c7;have H1:(some (0,0,false)) = some (r1,r2,r3):=by rw [if_neg (show ¬ (false = true) by decide)] at H;exact H
      clear H;have H:=H1;clear H1;simp only [Option.some.injEq,Prod.mk.injEq] at H;obtain ⟨rfl,rfl,rfl⟩:=H
      go_wp2
      go_ret3
      exact ⟨cl2,by repeat (first|exact Drawn0.refl _|apply Drawn0.step)⟩

/-! ### spec_GetText: function 22 -/
def spec_GetText.f (k:Nat) (l0:List Int) (a1:Int):Option (ByteArray × Int × Bool):=(spec_GetNum.f k l0 a1).bind fun bt106=>(if bt106.2.2 = true then (if bt106.1 < 0 then (some ((⟨#[]⟩:ByteArray),0,false)) else (if bt106.1 > (wrap64 ((l0.length:Int) - bt106.2.1)) then (some ((⟨#[]⟩:ByteArray),0,false)) else (if 0≤bt106.2.1 then (if bt106.2.1≤(wrap64 (bt106.2.1 + bt106.1)) then (if (wrap64 (bt106.2.1 + bt106.1))≤(l0.length:Int) then (some (strOfNums ((l0.take ((wrap64 (bt106.2.1 + bt106.1)):Int).toNat).drop (bt106.2.1:Int).toNat),wrap64 (bt106.2.1 + bt106.1),true)) else (none)) else (none)) else (none)))) else (some ((⟨#[]⟩:ByteArray),0,false)))
theorem spec_GetText.mono:∀ a0 a1 k,LeO (spec_GetText.f k a0 a1) (spec_GetText.f (k + 1) a0 a1):=by
 intro a0 a1 k
 unfold spec_GetText.f
 with_reducible repeat' first|apply spec_GetNum.mono|apply LeO.refl|apply LeO.none|apply LeO.ite|refine LeO.bind ?_ (fun _=>?_)
set_option maxHeartbeats 8000000 in
set_option maxRecDepth 100000 in
theorem spec_GetText.calls (k:Nat) (A0:Option Addr) (c0:Nat) (l0:List Int) (a1:Int) (r1:ByteArray) (r2:Int) (r3:Bool) (w:World) (hr0:Kd.C (Kd.int .u8) w A0 l0.length l0) (hc0:l0.length≤c0) (h:spec_GetText.f k l0 a1 = some (r1,r2,r3)) :
  Calls Try.prog 22 #[.slice A0 l0.length c0,.int .i64 a1] w fun e w'=>e = .returned (.tuple #[.string r1,.int .i64 r2,.bool r3])∧Drawn0 w w':=by
 have HR0:=Aside0.mk hr0;have HC0:=Aside0.mk hc0;clear hr0 hc0;have H:((spec_GetNum.f k l0 a1).bind fun bt106=>(if bt106.2.2 = true then (if bt106.1 < 0 then (some ((⟨#[]⟩:ByteArray),0,false)) else (if bt106.1 > (wrap64 ((l0.length:Int) - bt106.2.1)) then (some ((⟨#[]⟩:ByteArray),0,false)) else (if 0≤bt106.2.1 then (if bt106.2.1≤(wrap64 (bt106.2.1 + bt106.1)) then (if (wrap64 (bt106.2.1 + bt106.1))≤(l0.length:Int) then (some (strOfNums ((l0.take ((wrap64 (bt106.2.1 + bt106.1)):Int).toNat).drop (bt106.2.1:Int).toNat),wrap64 (bt106.2.1 + bt106.1),true)) else (none)) else (none)) else (none)))) else (some ((⟨#[]⟩:ByteArray),0,false)))) = some (r1,r2,r3):=h;clear h;replace H:=Option.bind_eq_some_iff.mp H;obtain ⟨⟨t106,t107,t108⟩,A30,H⟩:=H;replace H:(if t108 = true then (if t106 < 0 then (some ((⟨#[]⟩:ByteArray),0,false)) else (if t106 > (wrap64 ((l0.length:Int) - t107)) then (some ((⟨#[]⟩:ByteArray),0,false)) else (if 0≤t107 then (if t107≤(wrap64 (t107 + t106)) then (if (wrap64 (t107 + t106))≤(l0.length:Int) then (some (strOfNums ((l0.take ((wrap64 (t107 + t106)):Int).toNat).drop (t107:Int).toNat),wrap64 (t107 + t106),true)) else (none)) else (none)) else (none)))) else (some ((⟨#[]⟩:ByteArray),0,false))) = some (r1,r2,r3):=H;have A3:=Aside0.mk A30;clear A30
 by_cases c4:t108 = true
 ·subst c4
  have H1:(if t106 < 0 then (some ((⟨#[]⟩:ByteArray),0,false)) else (if t106 > (wrap64 ((l0.length:Int) - t107)) then (some ((⟨#[]⟩:ByteArray),0,false)) else (if 0≤t107 then (if t107≤(wrap64 (t107 + t106)) then (if (wrap64 (t107 + t106))≤(l0.length:Int) then (some (strOfNums ((l0.take ((wrap64 (t107 + t106)):Int).toNat).drop (t107:Int).toNat),wrap64 (t107 + t106),true)) else (none)) else (none)) else (none)))) = some (r1,r2,r3):=by rw [if_pos rfl] at H;exact H
  clear H;have H:=H1;clear H1
  by_cases c5:t106 < 0
  ·rw [if_pos c5] at H
   have c5b0:decide (t106 < 0) = true:=decide_eq_true c5;clear c5;simp only [Option.some.injEq,Prod.mk.injEq] at H;obtain ⟨rfl,rfl,rfl⟩:=H
   go_enter Try.func22,Try.ntmps22
   go_wp2_with (first|((with_reducible refine gate_callee (f:=21) rfl ?_);refine goesL_ (some 13) rfl rfl Try.func21 (by kernel_rfl) rfl #[.slice A0 l0.length c0,.int .i64 a1] rfl gs ?_;(with_reducible refine (spec_GetNum.calls k _ _ l0 a1 t106 t107 true _ ?side1 ?side2 A3.out).mono ?_);(case side1=>repeat (first|exact HR0.out|(with_reducible refine Kd.C_alloc ?_ _)|(with_reducible refine Kd.C_drewN ?_ _)|(with_reducible refine Kd.C_drew ?_)));(case side2=>exact HC0.out);rintro e w' ⟨rfl,⟨nd,rfl⟩⟩;refine ⟨_,rfl,?_⟩))
   go_ret3
   exact ⟨cl2,by repeat (first|exact Drawn0.refl _|apply Drawn0.step)⟩
  ·rw [if_neg c5] at H
   have c5b0:decide (t106 < 0) = false:=decide_eq_false c5;clear c5
   by_cases c6:t106 > (wrap64 ((l0.length:Int) - t107))
   ·rw [if_pos c6] at H
    have c6b0:decide ((wrap64 ((l0.length:Int) - t107)) < t106) = true:=decide_eq_true c6;clear c6;simp only [Option.some.injEq,Prod.mk.injEq] at H;obtain ⟨rfl,rfl,rfl⟩:=H
    go_enter Try.func22,Try.ntmps22
    go_wp2_with (first|((with_reducible refine gate_callee (f:=21) rfl ?_);refine goesL_ (some 13) rfl rfl Try.func21 (by kernel_rfl) rfl #[.slice A0 l0.length c0,.int .i64 a1] rfl gs ?_;(with_reducible refine (spec_GetNum.calls k _ _ l0 a1 t106 t107 true _ ?side1 ?side2 A3.out).mono ?_);(case side1=>repeat (first|exact HR0.out|(with_reducible refine Kd.C_alloc ?_ _)|(with_reducible refine Kd.C_drewN ?_ _)|(with_reducible refine Kd.C_drew ?_)));(case side2=>exact HC0.out);rintro e w' ⟨rfl,⟨nd,rfl⟩⟩;refine ⟨_,rfl,?_⟩))
    go_ret3
    exact ⟨cl2,by repeat (first|exact Drawn0.refl _|apply Drawn0.step)⟩
   ·rw [if_neg c6] at H
    have c6b0:decide ((wrap64 ((l0.length:Int) - t107)) < t106) = false:=decide_eq_false c6;clear c6
    by_cases c7:0≤t107
    ·rw [if_pos c7] at H
     have c7b0:=eq_true c7;have c7b1:decide (0≤t107) = true:=decide_eq_true c7;clear c7
     by_cases c8:t107≤(wrap64 (t107 + t106))
     ·rw [if_pos c8] at H
      have c8b0:=eq_true c8;have c8b1:decide (t107≤(wrap64 (t107 + t106))) = true:=decide_eq_true c8
      by_cases c9:(wrap64 (t107 + t106))≤(l0.length:Int)
      ·rw [if_pos c9] at H
       have c9b0:=eq_true c9;have c9b1:decide ((wrap64 (t107 + t106))≤(l0.length:Int)) = true:=decide_eq_true c9;obtain ⟨y109,hy109⟩:∃ y_:List Int,y_ = ((l0.take ((wrap64 (t107 + t106)):Int).toNat).drop (t107:Int).toNat):=⟨_,rfl⟩;replace H:(some (strOfNums y109,wrap64 (t107 + t106),true)) = some (r1,r2,r3):=by first|(rw [hy109];with_reducible exact H)|(have H2_:=(Option.bind_some _ _).symm.trans H;rw [hy109];with_reducible exact H2_)|(have H2_:=(Option.bind_some _ _).symm.trans H;with_reducible exact H2_)|with_reducible exact H|(rw [hy109];exact H)|exact H
       have Ny109:=Aside0.mk hy109;clear hy109;simp only [Option.some.injEq,Prod.mk.injEq] at H;obtain ⟨rfl,rfl,rfl⟩:=H
       go_enter Try.func22,Try.ntmps22
       go_wp2_with (first|((with_reducible refine gate_callee (f:=21) rfl ?_);refine goesL_ (some 13) rfl rfl Try.func21 (by kernel_rfl) rfl #[.slice A0 l0.length c0,.int .i64 a1] rfl gs ?_;(with_reducible refine (spec_GetNum.calls k _ _ l0 a1 t106 t107 true _ ?side1 ?side2 A3.out).mono ?_);(case side1=>repeat (first|exact HR0.out|(with_reducible refine Kd.C_alloc ?_ _)|(with_reducible refine Kd.C_drewN ?_ _)|(with_reducible refine Kd.C_drew ?_)));(case side2=>exact HC0.out);rintro e w' ⟨rfl,⟨nd,rfl⟩⟩;refine ⟨_,rfl,?_⟩;have q10:((wrap64 (t107 + t106)):Int)≤((l0.length:Int):Int):=od;obtain ⟨i010,hi010,_,hsz10,_⟩:=info_parts info5;have hroom10:l0.length≤c0:=HC0.out;have hC10:Kd.C (Kd.int .u8) _ A0 l0.length l0:=HR0.out;have ql10:(t107:Int)≤((wrap64 (t107 + t106)):Int):=od;have q010:(0:Int)≤(t107:Int):=od;have hcut10:=cut_mid (P:=Try.prog) 22 5 .i64 .i64 Try.underlying22 hi010 1 hsz10 A0 l0.length c0 t107 (wrap64 (t107 + t106)) q010 ql10 q10 hroom10;have hr10:=Kd.C_mid (lo:=(t107:Int).toNat) (hi:=((wrap64 (t107 + t106)):Int).toNat) (c:=c0) hC10 (by omega) (by omega) hroom10;obtain ⟨A10,hA10⟩:∃ A1,A1 = (if c0 = (t107:Int).toNat then A0 else (A0:Option Addr).map (·.add ((t107:Int).toNat * 1))):=⟨_,rfl⟩;obtain ⟨c10,hc10⟩:∃ c1,c1 = c0 - (t107:Int).toNat:=⟨_,rfl⟩;have hy10:y109.length = ((wrap64 (t107 + t106)):Int).toNat - (t107:Int).toNat:=(by rw [Ny109.out,List.length_drop,List.length_take] <;> omega);rw [show ((l0).take ((wrap64 (t107 + t106)):Int).toNat).drop (t107:Int).toNat = y109 from Ny109.out.symm] at hr10;replace hr10:Kd.C (Kd.int .u8) _ A10 y109.length y109:=(by rw [hA10];exact hr10);rw [← hy10,← hA10,← hc10] at hcut10;have HR112:=Aside0.mk hr10;have HC112:=Aside0.mk (show y109.length≤c10 from by rw [hy10,hc10];exact Nat.sub_le_sub_right (Nat.le_trans (by omega) hroom10) _);clear hr10 hC10 hroom10 hi010 hsz10 hc10;have KY10:=Aside0.mk hy10;have KA10:=Aside0.mk hA10;clear hy10 hA10;replace q10:=eq_true q10;have hcv11:=Kd.C_string (P:=Try.prog) (A:=A10) (c:=c10) Try.underlying22 Try.underlying5 Try.underlying9 HR112.out;have hcv12:=fun m_:Nat=>Kd.C_string (P:=Try.prog) (A:=A10) (c:=c10) Try.underlying22 Try.underlying5 Try.underlying9 (Kd.C_drewN HR112.out m_)))
       go_ret3
       exact ⟨cl2,by repeat (first|exact Drawn0.refl _|apply Drawn0.step)⟩
      ·rw [if_neg c9] at H
       exact absurd H (by simp)
     ·rw [if_neg c8] at H
      exact absurd H (by simp)
    ·rw [if_neg c7] at H
     exact absurd H (by simp)
 ·replace c4:=Bool.eq_false_iff.mpr c4
  subst c4;have H1:(some ((⟨#[]⟩:ByteArray),0,false)) = some (r1,r2,r3):=by rw [if_neg (show ¬ (false = true) by decide)] at H;exact H
  clear H;have H:=H1;clear H1;simp only [Option.some.injEq,Prod.mk.injEq] at H;obtain ⟨rfl,rfl,rfl⟩:=H
  go_enter Try.func22,Try.ntmps22
  go_wp2_with (first|((with_reducible refine gate_callee (f:=21) rfl ?_);refine goesL_ (some 13) rfl rfl Try.func21 (by kernel_rfl) rfl #[.slice A0 l0.length c0,.int .i64 a1] rfl gs ?_;(with_reducible refine (spec_GetNum.calls k _ _ l0 a1 t106 t107 false _ ?side1 ?side2 A3.out).mono ?_);(case side1=>repeat (first|exact HR0.out|(with_reducible refine Kd.C_alloc ?_ _)|(with_reducible refine Kd.C_drewN ?_ _)|(with_reducible refine Kd.C_drew ?_)));(case side2=>exact HC0.out);rintro e w' ⟨rfl,⟨nd,rfl⟩⟩;refine ⟨_,rfl,?_⟩))
  go_ret3
  exact ⟨cl2,by repeat (first|exact Drawn0.refl _|apply Drawn0.step)⟩

end Go.Proofs.Ytefkjmkmojmllaa.QFnExactGetTerm
