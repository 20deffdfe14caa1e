-- Written by a program of this workplace (print2.py) for this claim, over the print's words.
import Derived.Test.YtaobcdpadpkngaaQFnPatternsx0
import Derived.Test.YtaobcdpadpkngaaQFnPatternsx9
namespace Go.Proofs.Ytaobcdpadpkngaa.QFnPatterns
open Go.RowKit Go.Proofs.YtaobcdpadpkngaaW.PrintWords Go.Proofs.YtaobcdpadpkngaaW.PrintLast Go.Proofs.YtaobcdpadpkngaaW.PrintMore
attribute [local go_sem] max2_int min2_int max_two min_two max_three min_three max_four min_four   -- for this text's walks alone
set_option linter.unusedVariables false
set_option linter.unusedSimpArgs false

/-! ### spec_l3VarOk: function 39 -/
def spec_l3VarOk.l0:Nat → ByteArray → Int → Option (Bool)
 | 0,_,_=>none
 | k + 1,x0,x3=>if x3 < (x0.size:Int) then (if 0≤x3 then ((spec_l3Large.f (bt x0 x3)).bind fun t581=>(if t581 = true then (spec_l3VarOk.l0 k x0 (wrap64 (x3 + 1))) else (if x3 = 0 then (some false) else ((spec_l3Small.f (bt x0 x3)).bind fun t582=>(if t582 = true then (spec_l3VarOk.l0 k x0 (wrap64 (x3 + 1))) else ((spec_l3Digit.f (bt x0 x3)).bind fun t583=>(if t583 = true then (spec_l3VarOk.l0 k x0 (wrap64 (x3 + 1))) else (some false)))))))) else (none)) else ((spec_l1In.f (x0.size:Int) 1 20).bind fun t580=>(some t580))
def spec_l3VarOk.f (k:Nat) (a0:ByteArray):Option (Bool):=spec_l3VarOk.l0 k a0 0
theorem spec_l3VarOk.mono_l:∀ k,(∀ y0 y1,LeO (spec_l3VarOk.l0 k y0 y1) (spec_l3VarOk.l0 (k + 1) y0 y1))
 | 0=>fun _ _ r h=>by simp [spec_l3VarOk.l0] at h
 | k + 1=>by
  have ih0:=spec_l3VarOk.mono_l k
  ·intro y0 y1
   unfold spec_l3VarOk.l0
   with_reducible repeat' first|apply ih0|apply LeO.refl|apply LeO.none|apply LeO.ite|refine LeO.bind ?_ (fun _=>?_)
theorem spec_l3VarOk.mono:∀ a0 k,LeO (spec_l3VarOk.f k a0) (spec_l3VarOk.f (k + 1) a0):=by
 intro a0 k;have ih0:=spec_l3VarOk.mono_l k
 unfold spec_l3VarOk.f
 with_reducible repeat' first|apply ih0|apply LeO.refl|apply LeO.none|apply LeO.ite|refine LeO.bind ?_ (fun _=>?_)
set_option maxHeartbeats 8000000 in
set_option maxRecDepth 100000 in
theorem spec_l3VarOk.calls (k:Nat) (a0:ByteArray) (r:Bool) (w:World) (h:spec_l3VarOk.f k a0 = some r) :
  Calls Try.prog 39 #[.string a0] w fun e w'=>e = .returned (.bool r)∧Drawn0 w w':=by
 have H:(spec_l3VarOk.l0 k a0 0) = some r:=h;clear h;have H':=Aside0.mk H;clear H
 go_enter Try.func39,Try.ntmps39
 go_wp2
 go_loopg [3] k (fun kq v3 w'=>∃ (x3_1:Int),v3 = .int .i64 x3_1∧Aside0 (spec_l3VarOk.l0 kq a0 x3_1 = some r)∧Aside0 (kq≤k)∧Drawn0 w w')
 case atStart=>exact ⟨(0),(cl2),H',⟨Nat.le_refl _⟩,d0⟩
 case round =>
  clear H';obtain ⟨x3_1,rfl,HA,HK1,⟨m1,rfl⟩⟩:=hrel
  cases gk with
  | zero=>exact absurd HA.out (by simp [spec_l3VarOk.l0])
  | succ k1 =>
   have H:=HA.out;clear HA;simp only [spec_l3VarOk.l0] at H
   by_cases c2:x3_1 < (a0.size:Int)
   ·rw [if_pos c2] at H
    have c2b0:decide (x3_1 < (a0.size:Int)) = true:=decide_eq_true c2;clear c2
    by_cases c3:0≤x3_1
    ·rw [if_pos c3] at H
     have c3b0:decide (0≤x3_1) = true:=decide_eq_true c3;clear c3;replace H:=Option.bind_eq_some_iff.mp H;obtain ⟨t581,A50,H⟩:=H;replace H:(if t581 = true then (spec_l3VarOk.l0 k1 a0 (wrap64 (x3_1 + 1))) else (if x3_1 = 0 then (some false) else ((spec_l3Small.f (bt a0 x3_1)).bind fun t582=>(if t582 = true then (spec_l3VarOk.l0 k1 a0 (wrap64 (x3_1 + 1))) else ((spec_l3Digit.f (bt a0 x3_1)).bind fun t583=>(if t583 = true then (spec_l3VarOk.l0 k1 a0 (wrap64 (x3_1 + 1))) else (some false))))))) = some r:=H;have A5:=Aside0.mk A50;clear A50
     by_cases c6:t581 = true
     ·subst c6
      have H1:(spec_l3VarOk.l0 k1 a0 (wrap64 (x3_1 + 1))) = some r:=by rw [if_pos rfl] at H;exact H
      clear H;have H:=H1;clear H1;have H':=Aside0.mk H;clear H;have p4:0≤(x3_1:Int):=od;have q4:x3_1 < (a0.size:Int):=od;have hx4:=bt_at a0 x3_1;replace p4:=eq_true p4;replace q4:=eq_true q4
      go_wp2_with (first|((with_reducible refine gate_callee (f:=48) rfl ?_);refine goesL_ (some 13) rfl rfl Try.func48 (by kernel_rfl) rfl #[.int .u8 (bt a0 x3_1)] rfl gs ?_;(with_reducible refine (spec_l3Large.calls (bt a0 x3_1) true _ A5.out).mono ?_);rintro e w' ⟨rfl,⟨nd,rfl⟩⟩;refine ⟨_,rfl,?_⟩))
      go_roundg k1
      case measure=>have:=HK1.out;omega
      case rel=>exact ⟨(wrap64 (x3_1 + 1)),(cl2),H',⟨by have:=HK1.out;omega⟩,d0⟩
     ·replace c6:=Bool.eq_false_iff.mpr c6
      subst c6;have H1:(if x3_1 = 0 then (some false) else ((spec_l3Small.f (bt a0 x3_1)).bind fun t582=>(if t582 = true then (spec_l3VarOk.l0 k1 a0 (wrap64 (x3_1 + 1))) else ((spec_l3Digit.f (bt a0 x3_1)).bind fun t583=>(if t583 = true then (spec_l3VarOk.l0 k1 a0 (wrap64 (x3_1 + 1))) else (some false)))))) = some r:=nt H
      clear H;have H:=H1;clear H1
      by_cases c7:x3_1 = 0
      ·rw [if_pos c7] at H
       have c7b0:(x3_1 == 0) = true:=beq_iff_eq.mpr c7;have c7b1:(x3_1 != 0) = false:=bne_eq_false_iff_eq.mpr c7;clear c7;obtain rfl:=Option.some.inj H;have p4:0≤(x3_1:Int):=od;have q4:x3_1 < (a0.size:Int):=od;have hx4:=bt_at a0 x3_1;replace p4:=eq_true p4;replace q4:=eq_true q4
       go_wp2_with (first|((with_reducible refine gate_callee (f:=48) rfl ?_);refine goesL_ (some 13) rfl rfl Try.func48 (by kernel_rfl) rfl #[.int .u8 (bt a0 x3_1)] rfl gs ?_;(with_reducible refine (spec_l3Large.calls (bt a0 x3_1) false _ A5.out).mono ?_);rintro e w' ⟨rfl,⟨nd,rfl⟩⟩;refine ⟨_,rfl,?_⟩))
       go_ret
       exact ⟨cl2,d0⟩
      ·rw [if_neg c7] at H
       have c7b0:(x3_1 == 0) = false:=beq_eq_false_iff_ne.mpr c7;have c7b1:(x3_1 != 0) = true:=bne_iff_ne.mpr c7;replace H:=Option.bind_eq_some_iff.mp H;obtain ⟨t582,A90,H⟩:=H;replace H:(if t582 = true then (spec_l3VarOk.l0 k1 a0 (wrap64 (x3_1 + 1))) else ((spec_l3Digit.f (bt a0 x3_1)).bind fun t583=>(if t583 = true then (spec_l3VarOk.l0 k1 a0 (wrap64 (x3_1 + 1))) else (some false)))) = some r:=H;have A9:=Aside0.mk A90;clear A90
       by_cases c10:t582 = true
       ·subst c10
        have H1:(spec_l3VarOk.l0 k1 a0 (wrap64 (x3_1 + 1))) = some r:=by rw [if_pos rfl] at H;exact H
        clear H;have H:=H1;clear H1;have H':=Aside0.mk H;clear H;have p4:0≤(x3_1:Int):=od;have q4:x3_1 < (a0.size:Int):=od;have hx4:=bt_at a0 x3_1;replace p4:=eq_true p4;replace q4:=eq_true q4
        go_wp2_with (first|((with_reducible refine gate_callee (f:=48) rfl ?_);refine goesL_ (some 13) rfl rfl Try.func48 (by kernel_rfl) rfl #[.int .u8 (bt a0 x3_1)] rfl gs ?_;(with_reducible refine (spec_l3Large.calls (bt a0 x3_1) false _ A5.out).mono ?_);rintro e w' ⟨rfl,⟨nd,rfl⟩⟩;refine ⟨_,rfl,?_⟩;have p8:0≤(x3_1:Int):=od;have q8:x3_1 < (a0.size:Int):=od;have hx8:=bt_at a0 x3_1;replace p8:=eq_true p8;replace q8:=eq_true q8)|(go_at_call 49;(with_reducible refine (spec_l3Small.calls (bt a0 x3_1) true _ A9.out).mono ?_);rintro e w' ⟨rfl,⟨nd,rfl⟩⟩))
        go_roundg k1
        case measure=>have:=HK1.out;omega
        case rel=>exact ⟨(wrap64 (x3_1 + 1)),(cl2),H',⟨by have:=HK1.out;omega⟩,d0⟩
       ·replace c10:=Bool.eq_false_iff.mpr c10
        subst c10;have H1:((spec_l3Digit.f (bt a0 x3_1)).bind fun t583=>(if t583 = true then (spec_l3VarOk.l0 k1 a0 (wrap64 (x3_1 + 1))) else (some false))) = some r:=nt H
        clear H;have H:=H1;clear H1;replace H:=Option.bind_eq_some_iff.mp H;obtain ⟨t583,A120,H⟩:=H;replace H:(if t583 = true then (spec_l3VarOk.l0 k1 a0 (wrap64 (x3_1 + 1))) else (some false)) = some r:=H;have A12:=Aside0.mk A120;clear A120
        by_cases c13:t583 = true
        ·subst c13
         have H1:(spec_l3VarOk.l0 k1 a0 (wrap64 (x3_1 + 1))) = some r:=by rw [if_pos rfl] at H;exact H
         clear H;have H:=H1;clear H1;have H':=Aside0.mk H;clear H;have p4:0≤(x3_1:Int):=od;have q4:x3_1 < (a0.size:Int):=od;have hx4:=bt_at a0 x3_1;replace p4:=eq_true p4;replace q4:=eq_true q4
         go_wp2_with (first|((with_reducible refine gate_callee (f:=48) rfl ?_);refine goesL_ (some 13) rfl rfl Try.func48 (by kernel_rfl) rfl #[.int .u8 (bt a0 x3_1)] rfl gs ?_;(with_reducible refine (spec_l3Large.calls (bt a0 x3_1) false _ A5.out).mono ?_);rintro e w' ⟨rfl,⟨nd,rfl⟩⟩;refine ⟨_,rfl,?_⟩;have p8:0≤(x3_1:Int):=od;have q8:x3_1 < (a0.size:Int):=od;have hx8:=bt_at a0 x3_1;replace p8:=eq_true p8;replace q8:=eq_true q8)|(go_at_call 49;(with_reducible refine (spec_l3Small.calls (bt a0 x3_1) false _ A9.out).mono ?_);rintro e w' ⟨rfl,⟨nd,rfl⟩⟩;have p11:0≤(x3_1:Int):=od;have q11:x3_1 < (a0.size:Int):=od;have hx11:=bt_at a0 x3_1;replace p11:=eq_true p11;replace q11:=eq_true q11)|(go_at_call 50;(with_reducible refine (spec_l3Digit.calls (bt a0 x3_1) true _ A12.out).mono ?_);rintro e w' ⟨rfl,⟨nd,rfl⟩⟩))
         go_roundg k1
         case measure=>have:=HK1.out;omega
         case rel=>exact ⟨(wrap64 (x3_1 + 1)),(cl2),H',⟨by have:=HK1.out;omega⟩,d0⟩
        ·replace c13:=Bool.eq_false_iff.mpr c13
         subst c13;have H1:(some false) = some r:=nt H
         clear H;have H:=H1;clear H1;obtain rfl:=Option.some.inj H;have p4:0≤(x3_1:Int):=od;have q4:x3_1 < (a0.size:Int):=od;have hx4:=bt_at a0 x3_1;replace p4:=eq_true p4;replace q4:=eq_true q4
         go_wp2_with (first|((with_reducible refine gate_callee (f:=48) rfl ?_);refine goesL_ (some 13) rfl rfl Try.func48 (by kernel_rfl) rfl #[.int .u8 (bt a0 x3_1)] rfl gs ?_;(with_reducible refine (spec_l3Large.calls (bt a0 x3_1) false _ A5.out).mono ?_);rintro e w' ⟨rfl,⟨nd,rfl⟩⟩;refine ⟨_,rfl,?_⟩;have p8:0≤(x3_1:Int):=od;have q8:x3_1 < (a0.size:Int):=od;have hx8:=bt_at a0 x3_1;replace p8:=eq_true p8;replace q8:=eq_true q8)|(go_at_call 49;(with_reducible refine (spec_l3Small.calls (bt a0 x3_1) false _ A9.out).mono ?_);rintro e w' ⟨rfl,⟨nd,rfl⟩⟩;have p11:0≤(x3_1:Int):=od;have q11:x3_1 < (a0.size:Int):=od;have hx11:=bt_at a0 x3_1;replace p11:=eq_true p11;replace q11:=eq_true q11)|(go_at_call 50;(with_reducible refine (spec_l3Digit.calls (bt a0 x3_1) false _ A12.out).mono ?_);rintro e w' ⟨rfl,⟨nd,rfl⟩⟩))
         go_ret
         exact ⟨cl2,d0⟩
    ·rw [if_neg c3] at H
     exact absurd H (by simp)
   ·rw [if_neg c2] at H
    have c2b0:decide (x3_1 < (a0.size:Int)) = false:=decide_eq_false c2;clear c2;replace H:=Option.bind_eq_some_iff.mp H;obtain ⟨t580,A140,H⟩:=H;replace H:(some t580) = some r:=H;have A14:=Aside0.mk A140;clear A140;obtain rfl:=Option.some.inj H
    go_wp2_with (first|((with_reducible refine gate_callee (f:=37) rfl ?_);refine goesL_ (some 35) rfl rfl Try.func37 (by kernel_rfl) rfl #[.int .i64 (a0.size:Int),.int .i64 1,.int .i64 20] rfl gs ?_;(with_reducible refine (spec_l1In.calls (a0.size:Int) 1 20 t580 _ A14.out).mono ?_);rintro e w' ⟨rfl,⟨nd,rfl⟩⟩;refine ⟨_,rfl,?_⟩))
    go_ret
    exact ⟨cl2,d0⟩

/-! ### spec_l4Op: function 40 -/
def spec_l4Op.f (a0:ByteArray):Option (Bool):=if a0.toList = ([43]:List UInt8) then (some true) else (if a0.toList = ([45]:List UInt8) then (some true) else (if a0.toList = ([42]:List UInt8) then (some true) else (if a0.toList = ([61,61]:List UInt8) then (some true) else (some (a0.toList == ([60]:List UInt8))))))
set_option maxHeartbeats 8000000 in
set_option maxRecDepth 100000 in
theorem spec_l4Op.calls (a0:ByteArray) (r:Bool) (w:World) (h:spec_l4Op.f a0 = some r) :
  Calls Try.prog 40 #[.string a0] w fun e w'=>e = .returned (.bool r)∧Drawn0 w w':=by
 have H:(if a0.toList = ([43]:List UInt8) then (some true) else (if a0.toList = ([45]:List UInt8) then (some true) else (if a0.toList = ([42]:List UInt8) then (some true) else (if a0.toList = ([61,61]:List UInt8) then (some true) else (some (a0.toList == ([60]:List UInt8))))))) = some r:=h;clear h
 by_cases c2:a0.toList = ([43]:List UInt8)
 ·rw [if_pos c2] at H
  have c2b0:(a0.toList == ([43]:List UInt8)) = true:=beq_iff_eq.mpr c2;have c2b1:(a0.toList != ([43]:List UInt8)) = false:=bne_eq_false_iff_eq.mpr c2;clear c2;obtain rfl:=Option.some.inj H
  go_enter Try.func40,Try.ntmps40
  go_wp2
  go_ret
  exact ⟨cl2,d0⟩
 ·rw [if_neg c2] at H
  have c2b0:(a0.toList == ([43]:List UInt8)) = false:=beq_eq_false_iff_ne.mpr c2;have c2b1:(a0.toList != ([43]:List UInt8)) = true:=bne_iff_ne.mpr c2
  by_cases c3:a0.toList = ([45]:List UInt8)
  ·rw [if_pos c3] at H
   have c3b0:(a0.toList == ([45]:List UInt8)) = true:=beq_iff_eq.mpr c3;have c3b1:(a0.toList != ([45]:List UInt8)) = false:=bne_eq_false_iff_eq.mpr c3;clear c3;obtain rfl:=Option.some.inj H
   go_enter Try.func40,Try.ntmps40
   go_wp2
   go_ret
   exact ⟨cl2,d0⟩
  ·rw [if_neg c3] at H
   have c3b0:(a0.toList == ([45]:List UInt8)) = false:=beq_eq_false_iff_ne.mpr c3;have c3b1:(a0.toList != ([45]:List UInt8)) = true:=bne_iff_ne.mpr c3
   by_cases c4:a0.toList = ([42]:List UInt8)
   ·rw [if_pos c4] at H
    have c4b0:(a0.toList == ([42]:List UInt8)) = true:=beq_iff_eq.mpr c4;have c4b1:(a0.toList != ([42]:List UInt8)) = false:=bne_eq_false_iff_eq.mpr c4;clear c4;obtain rfl:=Option.some.inj H
    go_enter Try.func40,Try.ntmps40
    go_wp2
    go_ret
    exact ⟨cl2,d0⟩
   ·rw [if_neg c4] at H
    have c4b0:(a0.toList == ([42]:List UInt8)) = false:=beq_eq_false_iff_ne.mpr c4;have c4b1:(a0.toList != ([42]:List UInt8)) = true:=bne_iff_ne.mpr c4
    by_cases c5:a0.toList = ([61,61]:List UInt8)
    ·rw [if_pos c5] at H
     have c5b0:(a0.toList == ([61,61]:List UInt8)) = true:=beq_iff_eq.mpr c5;have c5b1:(a0.toList != ([61,61]:List UInt8)) = false:=bne_eq_false_iff_eq.mpr c5;clear c5;obtain rfl:=Option.some.inj H
     go_enter Try.func40,Try.ntmps40
     go_wp2
     go_ret
     exact ⟨cl2,d0⟩
    ·rw [if_neg c5] at H
     have c5b0:(a0.toList == ([61,61]:List UInt8)) = false:=beq_eq_false_iff_ne.mpr c5;have c5b1:(a0.toList != ([61,61]:List UInt8)) = true:=bne_iff_ne.mpr c5;obtain rfl:=Option.some.inj H
     go_enter Try.func40,Try.ntmps40
     go_wp2
     go_ret
     exact ⟨cl2,d0⟩

end Go.Proofs.Ytaobcdpadpkngaa.QFnPatterns
