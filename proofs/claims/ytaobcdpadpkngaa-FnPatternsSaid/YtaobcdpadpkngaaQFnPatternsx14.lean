-- Written by a program of this workplace (print2.py) for this claim, over the print's words.
import Derived.Test.YtaobcdpadpkngaaQFnPatternsx0
import Derived.Test.YtaobcdpadpkngaaQFnPatternsx13
namespace Go.Proofs.Ytaobcdpadpkngaa.QFnPatterns
open Go.RowKit Go.Proofs.YtaobcdpadpkngaaW.PrintWords Go.Proofs.YtaobcdpadpkngaaW.PrintLast Go.Proofs.YtaobcdpadpkngaaW.PrintMore
attribute [local go_sem] max2_int min2_int max_two min_two max_three min_three max_four min_four   -- for this text's walks alone
set_option linter.unusedVariables false
set_option linter.unusedSimpArgs false

/-! ### impl_isLarge: function 45 -/
def impl_isLarge.f (a0:Int):Option (Bool):=if a0 ≥ 65 then (if a0≤90 then (some true) else (some (a0 == 95))) else (some (a0 == 95))
set_option maxHeartbeats 8000000 in
set_option maxRecDepth 100000 in
theorem impl_isLarge.calls (a0:Int) (r:Bool) (w:World) (h:impl_isLarge.f a0 = some r) :
  Calls Try.prog 45 #[.int .u8 a0] w fun e w'=>e = .returned (.bool r)∧Drawn0 w w':=by
 have H:(if a0 ≥ 65 then (if a0≤90 then (some true) else (some (a0 == 95))) else (some (a0 == 95))) = some r:=h;clear h
 by_cases c2:a0 ≥ 65
 ·rw [if_pos c2] at H
  have c2b0:decide (65≤a0) = true:=decide_eq_true c2;clear c2
  by_cases c3:a0≤90
  ·rw [if_pos c3] at H
   have c3b0:decide (a0≤90) = true:=decide_eq_true c3;clear c3;obtain rfl:=Option.some.inj H
   go_enter Try.func45,Try.ntmps45
   go_wp2
   go_ret
   exact ⟨cl2,d0⟩
  ·rw [if_neg c3] at H
   have c3b0:decide (a0≤90) = false:=decide_eq_false c3;clear c3;obtain rfl:=Option.some.inj H
   go_enter Try.func45,Try.ntmps45
   go_wp2
   go_ret
   exact ⟨cl2,d0⟩
 ·rw [if_neg c2] at H
  have c2b0:decide (65≤a0) = false:=decide_eq_false c2;clear c2;obtain rfl:=Option.some.inj H
  go_enter Try.func45,Try.ntmps45
  go_wp2
  go_ret
  exact ⟨cl2,d0⟩

/-! ### impl_isWordByte: function 44 -/
def impl_isWordByte.f (a0:Int):Option (Bool):=(impl_isSmall.f a0).bind fun t737=>(if t737 = true then (some true) else ((impl_isLarge.f a0).bind fun t738=>(if t738 = true then (some true) else ((impl_isFigure.f a0).bind fun t739=>(some t739)))))
set_option maxHeartbeats 8000000 in
set_option maxRecDepth 100000 in
theorem impl_isWordByte.calls (a0:Int) (r:Bool) (w:World) (h:impl_isWordByte.f a0 = some r) :
  Calls Try.prog 44 #[.int .u8 a0] w fun e w'=>e = .returned (.bool r)∧Drawn0 w w':=by
 have H:((impl_isSmall.f a0).bind fun t737=>(if t737 = true then (some true) else ((impl_isLarge.f a0).bind fun t738=>(if t738 = true then (some true) else ((impl_isFigure.f a0).bind fun t739=>(some t739)))))) = some r:=h;clear h;replace H:=Option.bind_eq_some_iff.mp H;obtain ⟨t737,A20,H⟩:=H;replace H:(if t737 = true then (some true) else ((impl_isLarge.f a0).bind fun t738=>(if t738 = true then (some true) else ((impl_isFigure.f a0).bind fun t739=>(some t739))))) = some r:=H;have A2:=Aside0.mk A20;clear A20
 by_cases c3:t737 = true
 ·subst c3
  have H1:(some true) = some r:=by rw [if_pos rfl] at H;exact H
  clear H;have H:=H1;clear H1;obtain rfl:=Option.some.inj H
  go_enter Try.func44,Try.ntmps44
  go_wp2_with (first|((with_reducible refine gate_callee (f:=51) rfl ?_);refine goesL_ (some 4) rfl rfl Try.func51 (by kernel_rfl) rfl #[.int .u8 a0] rfl gs ?_;(with_reducible refine (impl_isSmall.calls a0 true _ A2.out).mono ?_);rintro e w' ⟨rfl,⟨nd,rfl⟩⟩;refine ⟨_,rfl,?_⟩))
  go_ret
  exact ⟨cl2,d0⟩
 ·replace c3:=Bool.eq_false_iff.mpr c3
  subst c3;have H1:((impl_isLarge.f a0).bind fun t738=>(if t738 = true then (some true) else ((impl_isFigure.f a0).bind fun t739=>(some t739)))) = some r:=nt H
  clear H;have H:=H1;clear H1;replace H:=Option.bind_eq_some_iff.mp H;obtain ⟨t738,A40,H⟩:=H;replace H:(if t738 = true then (some true) else ((impl_isFigure.f a0).bind fun t739=>(some t739))) = some r:=H;have A4:=Aside0.mk A40;clear A40
  by_cases c5:t738 = true
  ·subst c5
   have H1:(some true) = some r:=by rw [if_pos rfl] at H;exact H
   clear H;have H:=H1;clear H1;obtain rfl:=Option.some.inj H
   go_enter Try.func44,Try.ntmps44
   go_wp2_with (first|((with_reducible refine gate_callee (f:=51) rfl ?_);refine goesL_ (some 4) rfl rfl Try.func51 (by kernel_rfl) rfl #[.int .u8 a0] rfl gs ?_;(with_reducible refine (impl_isSmall.calls a0 false _ A2.out).mono ?_);rintro e w' ⟨rfl,⟨nd,rfl⟩⟩;refine ⟨_,rfl,?_⟩)|(go_at_call 45;(with_reducible refine (impl_isLarge.calls a0 true _ A4.out).mono ?_);rintro e w' ⟨rfl,⟨nd,rfl⟩⟩))
   go_ret
   exact ⟨cl2,d0⟩
  ·replace c5:=Bool.eq_false_iff.mpr c5
   subst c5;have H1:((impl_isFigure.f a0).bind fun t739=>(some t739)) = some r:=nt H
   clear H;have H:=H1;clear H1;replace H:=Option.bind_eq_some_iff.mp H;obtain ⟨t739,A60,H⟩:=H;replace H:(some t739) = some r:=H;have A6:=Aside0.mk A60;clear A60;obtain rfl:=Option.some.inj H
   go_enter Try.func44,Try.ntmps44
   go_wp2_with (first|((with_reducible refine gate_callee (f:=51) rfl ?_);refine goesL_ (some 4) rfl rfl Try.func51 (by kernel_rfl) rfl #[.int .u8 a0] rfl gs ?_;(with_reducible refine (impl_isSmall.calls a0 false _ A2.out).mono ?_);rintro e w' ⟨rfl,⟨nd,rfl⟩⟩;refine ⟨_,rfl,?_⟩)|(go_at_call 45;(with_reducible refine (impl_isLarge.calls a0 false _ A4.out).mono ?_);rintro e w' ⟨rfl,⟨nd,rfl⟩⟩)|(go_at_call 52;(with_reducible refine (impl_isFigure.calls a0 t739 _ A6.out).mono ?_);rintro e w' ⟨rfl,⟨nd,rfl⟩⟩))
   go_ret
   exact ⟨cl2,d0⟩

/-! ### impl_varOk: function 34 -/
def impl_varOk.l0:Nat → ByteArray → Int → Option (Bool)
 | 0,_,_=>none
 | k + 1,x0,x3=>if x3 < (x0.size:Int) then (if 0≤x3 then ((impl_isWordByte.f (bt x0 x3)).bind fun t740=>(if t740 = true then (impl_varOk.l0 k x0 (wrap64 (x3 + 1))) else (some false))) else (none)) else ((impl_inRange.f (x0.size:Int) 1 20).bind fun t741=>(if t741 = true then (if 0 < (x0.size:Int) then ((impl_isLarge.f (bt x0 0)).bind fun t742=>(some t742)) else (none)) else (some false)))
def impl_varOk.f (k:Nat) (a0:ByteArray):Option (Bool):=impl_varOk.l0 k a0 0
theorem impl_varOk.mono_l:∀ k,(∀ y0 y1,LeO (impl_varOk.l0 k y0 y1) (impl_varOk.l0 (k + 1) y0 y1))
 | 0=>fun _ _ r h=>by simp [impl_varOk.l0] at h
 | k + 1=>by
  have ih0:=impl_varOk.mono_l k
  ·intro y0 y1
   unfold impl_varOk.l0
   with_reducible repeat' first|apply ih0|apply LeO.refl|apply LeO.none|apply LeO.ite|refine LeO.bind ?_ (fun _=>?_)
theorem impl_varOk.mono:∀ a0 k,LeO (impl_varOk.f k a0) (impl_varOk.f (k + 1) a0):=by
 intro a0 k;have ih0:=impl_varOk.mono_l k
 unfold impl_varOk.f
 with_reducible repeat' first|apply ih0|apply LeO.refl|apply LeO.none|apply LeO.ite|refine LeO.bind ?_ (fun _=>?_)
set_option maxHeartbeats 8000000 in
set_option maxRecDepth 100000 in
theorem impl_varOk.calls (k:Nat) (a0:ByteArray) (r:Bool) (w:World) (h:impl_varOk.f k a0 = some r) :
  Calls Try.prog 34 #[.string a0] w fun e w'=>e = .returned (.bool r)∧Drawn0 w w':=by
 have H:(impl_varOk.l0 k a0 0) = some r:=h;clear h;have H':=Aside0.mk H;clear H
 go_enter Try.func34,Try.ntmps34
 go_wp2
 go_loopg [3] k (fun kq v3 w'=>∃ (x3_1:Int),v3 = .int .i64 x3_1∧Aside0 (impl_varOk.l0 kq a0 x3_1 = some r)∧Aside0 (kq≤k)∧Drawn0 w w')
 case atStart=>exact ⟨(0),(cl2),H',⟨Nat.le_refl _⟩,d0⟩
 case round =>
  clear H';obtain ⟨x3_1,rfl,HA,HK1,⟨m1,rfl⟩⟩:=hrel
  cases gk with
  | zero=>exact absurd HA.out (by simp [impl_varOk.l0])
  | succ k1 =>
   have H:=HA.out;clear HA;simp only [impl_varOk.l0] at H
   by_cases c2:x3_1 < (a0.size:Int)
   ·rw [if_pos c2] at H
    have c2b0:decide (x3_1 < (a0.size:Int)) = true:=decide_eq_true c2;clear c2
    by_cases c3:0≤x3_1
    ·rw [if_pos c3] at H
     have c3b0:decide (0≤x3_1) = true:=decide_eq_true c3;clear c3;replace H:=Option.bind_eq_some_iff.mp H;obtain ⟨t740,A50,H⟩:=H;replace H:(if t740 = true then (impl_varOk.l0 k1 a0 (wrap64 (x3_1 + 1))) else (some false)) = some r:=H;have A5:=Aside0.mk A50;clear A50
     by_cases c6:t740 = true
     ·subst c6
      have H1:(impl_varOk.l0 k1 a0 (wrap64 (x3_1 + 1))) = some r:=by rw [if_pos rfl] at H;exact H
      clear H;have H:=H1;clear H1;have H':=Aside0.mk H;clear H;have p4:0≤(x3_1:Int):=od;have q4:x3_1 < (a0.size:Int):=od;have hx4:=bt_at a0 x3_1;replace p4:=eq_true p4;replace q4:=eq_true q4
      go_wp2_with (first|((with_reducible refine gate_callee (f:=44) rfl ?_);refine goesL_ (some 13) rfl rfl Try.func44 (by kernel_rfl) rfl #[.int .u8 (bt a0 x3_1)] rfl gs ?_;(with_reducible refine (impl_isWordByte.calls (bt a0 x3_1) true _ A5.out).mono ?_);rintro e w' ⟨rfl,⟨nd,rfl⟩⟩;refine ⟨_,rfl,?_⟩))
      go_roundg k1
      case measure=>have:=HK1.out;omega
      case rel=>exact ⟨(wrap64 (x3_1 + 1)),(cl2),H',⟨by have:=HK1.out;omega⟩,d0⟩
     ·replace c6:=Bool.eq_false_iff.mpr c6
      subst c6;have H1:(some false) = some r:=nt H
      clear H;have H:=H1;clear H1;obtain rfl:=Option.some.inj H;have p4:0≤(x3_1:Int):=od;have q4:x3_1 < (a0.size:Int):=od;have hx4:=bt_at a0 x3_1;replace p4:=eq_true p4;replace q4:=eq_true q4
      go_wp2_with (first|((with_reducible refine gate_callee (f:=44) rfl ?_);refine goesL_ (some 13) rfl rfl Try.func44 (by kernel_rfl) rfl #[.int .u8 (bt a0 x3_1)] rfl gs ?_;(with_reducible refine (impl_isWordByte.calls (bt a0 x3_1) false _ A5.out).mono ?_);rintro e w' ⟨rfl,⟨nd,rfl⟩⟩;refine ⟨_,rfl,?_⟩))
      go_ret
      exact ⟨cl2,d0⟩
    ·rw [if_neg c3] at H
     exact absurd H (by simp)
   ·rw [if_neg c2] at H
    have c2b0:decide (x3_1 < (a0.size:Int)) = false:=decide_eq_false c2;clear c2;replace H:=Option.bind_eq_some_iff.mp H;obtain ⟨t741,A70,H⟩:=H;replace H:(if t741 = true then (if 0 < (a0.size:Int) then ((impl_isLarge.f (bt a0 0)).bind fun t742=>(some t742)) else (none)) else (some false)) = some r:=H;have A7:=Aside0.mk A70;clear A70
    by_cases c8:t741 = true
    ·subst c8
     have H1:(if 0 < (a0.size:Int) then ((impl_isLarge.f (bt a0 0)).bind fun t742=>(some t742)) else (none)) = some r:=by rw [if_pos rfl] at H;exact H
     clear H;have H:=H1;clear H1
     by_cases c9:0 < (a0.size:Int)
     ·rw [if_pos c9] at H
      have c9b0:decide (0 < (a0.size:Int)) = true:=decide_eq_true c9;have c9b1:decide (0 < a0.size) = true:=decide_eq_true (by omega);clear c9;replace H:=Option.bind_eq_some_iff.mp H;obtain ⟨t742,A110,H⟩:=H;replace H:(some t742) = some r:=H;have A11:=Aside0.mk A110;clear A110;obtain rfl:=Option.some.inj H
      go_wp2_with (first|((with_reducible refine gate_callee (f:=32) rfl ?_);refine goesL_ (some 17) rfl rfl Try.func32 (by kernel_rfl) rfl #[.int .i64 (a0.size:Int),.int .i64 1,.int .i64 20] rfl gs ?_;(with_reducible refine (impl_inRange.calls (a0.size:Int) 1 20 true _ A7.out).mono ?_);rintro e w' ⟨rfl,⟨nd,rfl⟩⟩;refine ⟨_,rfl,?_⟩;have p10:0≤(0:Int):=(by omega);have q10:0 < a0.size:=(by have:(0:Int) < (a0.size:Int):=od;omega);have hx10:∀ h:0 < a0.size,((a0[0]'h).toNat:Int) = bt a0 0:=bt_at a0 0;clear p10;have qi10:(0 < (a0.size:Int)) = True:=eq_true (od);replace q10:=eq_true q10)|(go_at_call 45;(with_reducible refine (impl_isLarge.calls (bt a0 0) t742 _ A11.out).mono ?_);rintro e w' ⟨rfl,⟨nd,rfl⟩⟩))
      go_ret
      exact ⟨cl2,d0⟩
     ·rw [if_neg c9] at H
      exact absurd H (by simp)
    ·replace c8:=Bool.eq_false_iff.mpr c8
     subst c8;have H1:(some false) = some r:=nt H
     clear H;have H:=H1;clear H1;obtain rfl:=Option.some.inj H
     go_wp2_with (first|((with_reducible refine gate_callee (f:=32) rfl ?_);refine goesL_ (some 17) rfl rfl Try.func32 (by kernel_rfl) rfl #[.int .i64 (a0.size:Int),.int .i64 1,.int .i64 20] rfl gs ?_;(with_reducible refine (impl_inRange.calls (a0.size:Int) 1 20 false _ A7.out).mono ?_);rintro e w' ⟨rfl,⟨nd,rfl⟩⟩;refine ⟨_,rfl,?_⟩))
     go_ret
     exact ⟨cl2,d0⟩

/-! ### impl_isOp: function 35 -/
def impl_isOp.f (a0:ByteArray):Option (Bool):=if a0.toList = ([43]:List UInt8) then (some true) else (if a0.toList = ([45]:List UInt8) then (some true) else (if a0.toList = ([42]:List UInt8) then (some true) else (if a0.toList = ([61,61]:List UInt8) then (some true) else (if a0.toList = ([60]:List UInt8) then (some true) else (some false)))))
set_option maxHeartbeats 8000000 in
set_option maxRecDepth 100000 in
theorem impl_isOp.calls (a0:ByteArray) (r:Bool) (w:World) (h:impl_isOp.f a0 = some r) :
  Calls Try.prog 35 #[.string a0] w fun e w'=>e = .returned (.bool r)∧Drawn0 w w':=by
 have H:(if a0.toList = ([43]:List UInt8) then (some true) else (if a0.toList = ([45]:List UInt8) then (some true) else (if a0.toList = ([42]:List UInt8) then (some true) else (if a0.toList = ([61,61]:List UInt8) then (some true) else (if a0.toList = ([60]:List UInt8) then (some true) else (some false)))))) = some r:=h;clear h
 by_cases c2:a0.toList = ([43]:List UInt8)
 ·rw [if_pos c2] at H
  have c2b0:(a0.toList == ([43]:List UInt8)) = true:=beq_iff_eq.mpr c2;have c2b1:(a0.toList != ([43]:List UInt8)) = false:=bne_eq_false_iff_eq.mpr c2;clear c2;obtain rfl:=Option.some.inj H
  go_enter Try.func35,Try.ntmps35
  go_wp2
  go_ret
  exact ⟨cl2,d0⟩
 ·rw [if_neg c2] at H
  have c2b0:(a0.toList == ([43]:List UInt8)) = false:=beq_eq_false_iff_ne.mpr c2;have c2b1:(a0.toList != ([43]:List UInt8)) = true:=bne_iff_ne.mpr c2
  by_cases c3:a0.toList = ([45]:List UInt8)
  ·rw [if_pos c3] at H
   have c3b0:(a0.toList == ([45]:List UInt8)) = true:=beq_iff_eq.mpr c3;have c3b1:(a0.toList != ([45]:List UInt8)) = false:=bne_eq_false_iff_eq.mpr c3;clear c3;obtain rfl:=Option.some.inj H
   go_enter Try.func35,Try.ntmps35
   go_wp2
   go_ret
   exact ⟨cl2,d0⟩
  ·rw [if_neg c3] at H
   have c3b0:(a0.toList == ([45]:List UInt8)) = false:=beq_eq_false_iff_ne.mpr c3;have c3b1:(a0.toList != ([45]:List UInt8)) = true:=bne_iff_ne.mpr c3
   by_cases c4:a0.toList = ([42]:List UInt8)
   ·rw [if_pos c4] at H
    have c4b0:(a0.toList == ([42]:List UInt8)) = true:=beq_iff_eq.mpr c4;have c4b1:(a0.toList != ([42]:List UInt8)) = false:=bne_eq_false_iff_eq.mpr c4;clear c4;obtain rfl:=Option.some.inj H
    go_enter Try.func35,Try.ntmps35
    go_wp2
    go_ret
    exact ⟨cl2,d0⟩
   ·rw [if_neg c4] at H
    have c4b0:(a0.toList == ([42]:List UInt8)) = false:=beq_eq_false_iff_ne.mpr c4;have c4b1:(a0.toList != ([42]:List UInt8)) = true:=bne_iff_ne.mpr c4
    by_cases c5:a0.toList = ([61,61]:List UInt8)
    ·rw [if_pos c5] at H
     have c5b0:(a0.toList == ([61,61]:List UInt8)) = true:=beq_iff_eq.mpr c5;have c5b1:(a0.toList != ([61,61]:List UInt8)) = false:=bne_eq_false_iff_eq.mpr c5;clear c5;obtain rfl:=Option.some.inj H
     go_enter Try.func35,Try.ntmps35
     go_wp2
     go_ret
     exact ⟨cl2,d0⟩
    ·rw [if_neg c5] at H
     have c5b0:(a0.toList == ([61,61]:List UInt8)) = false:=beq_eq_false_iff_ne.mpr c5;have c5b1:(a0.toList != ([61,61]:List UInt8)) = true:=bne_iff_ne.mpr c5
     by_cases c6:a0.toList = ([60]:List UInt8)
     ·rw [if_pos c6] at H
      have c6b0:(a0.toList == ([60]:List UInt8)) = true:=beq_iff_eq.mpr c6;have c6b1:(a0.toList != ([60]:List UInt8)) = false:=bne_eq_false_iff_eq.mpr c6;clear c6;obtain rfl:=Option.some.inj H
      go_enter Try.func35,Try.ntmps35
      go_wp2
      go_ret
      exact ⟨cl2,d0⟩
     ·rw [if_neg c6] at H
      have c6b0:(a0.toList == ([60]:List UInt8)) = false:=beq_eq_false_iff_ne.mpr c6;have c6b1:(a0.toList != ([60]:List UInt8)) = true:=bne_iff_ne.mpr c6;obtain rfl:=Option.some.inj H
      go_enter Try.func35,Try.ntmps35
      go_wp2
      go_ret
      exact ⟨cl2,d0⟩

/-! ### impl_shapeOk: function 21 -/
def impl_shapeOk.j0:Nat → Int → ByteArray → Int → Int → Bool → Option (Bool)
 | 0,_,_,_,_,_=>none
 | k + 1,x1,x2,x3,x9,x46=>if x46 = true then (if x1 = 0 then (if x2.toList = ([]:List UInt8) then (some (decide (x3≤20))) else (some false)) else (some false)) else (if x9 = 6 then (if x1 = 0 then (if x2.toList = ([]:List UInt8) then ((impl_inRange.f x3 2 6).bind fun t746=>(some t746)) else (some false)) else (some false)) else (if x9 = 7 then (if x1 = 0 then ((impl_isOp.f x2).bind fun t747=>(if t747 = true then (some (x3 == 2)) else (some false))) else (some false)) else (if x9 = 8 then (if x1 = 0 then ((impl_xAtomOk.f k x2).bind fun t748=>(if t748 = true then (some (decide (x3≤4))) else (some false))) else (some false)) else (if x9 = 9 then (if x1 = 0 then (if x2.toList = ([]:List UInt8) then (some (x3 == 1)) else (some false)) else (some false)) else (some false)))))
def impl_shapeOk.f (k:Nat) (a0:Int) (a1:Int) (a2:ByteArray) (a3:Int):Option (Bool):=if a0 = 1 then ((impl_inRange.f a1 0 1000000000000).bind fun t743=>(if t743 = true then (if a2.toList = ([]:List UInt8) then (some (a3 == 0)) else (some false)) else (some false))) else (if a0 = 2 then (if a1 = 0 then ((impl_xAtomOk.f k a2).bind fun t744=>(if t744 = true then (some (a3 == 0)) else (some false))) else (some false)) else (if a0 = 3 then (if a1 = 0 then ((impl_varOk.f k a2).bind fun t745=>(if t745 = true then (some (a3 == 0)) else (some false))) else (some false)) else (if a0 = 4 then (impl_shapeOk.j0 k a1 a2 a3 a0 (a0 == 4)) else (impl_shapeOk.j0 k a1 a2 a3 a0 (a0 == 5)))))
theorem impl_shapeOk.mono_l:∀ k,(∀ y0 y1 y2 y3 y4,LeO (impl_shapeOk.j0 k y0 y1 y2 y3 y4) (impl_shapeOk.j0 (k + 1) y0 y1 y2 y3 y4))
 | 0=>fun _ _ _ _ _ r h=>by simp [impl_shapeOk.j0] at h
 | k + 1=>by
  have ih0:=impl_shapeOk.mono_l k
  ·intro y0 y1 y2 y3 y4
   unfold impl_shapeOk.j0
   with_reducible repeat' first|apply ih0|apply impl_varOk.mono|apply impl_xAtomOk.mono|apply LeO.refl|apply LeO.none|apply LeO.ite|refine LeO.bind ?_ (fun _=>?_)
theorem impl_shapeOk.mono:∀ a0 a1 a2 a3 k,LeO (impl_shapeOk.f k a0 a1 a2 a3) (impl_shapeOk.f (k + 1) a0 a1 a2 a3):=by
 intro a0 a1 a2 a3 k;have ih0:=impl_shapeOk.mono_l k
 unfold impl_shapeOk.f
 with_reducible repeat' first|apply ih0|apply impl_varOk.mono|apply impl_xAtomOk.mono|apply LeO.refl|apply LeO.none|apply LeO.ite|refine LeO.bind ?_ (fun _=>?_)
set_option maxHeartbeats 8000000 in
set_option maxRecDepth 100000 in
theorem impl_shapeOk.calls (k:Nat) (a0:Int) (a1:Int) (a2:ByteArray) (a3:Int) (r:Bool) (w:World) (h:impl_shapeOk.f k a0 a1 a2 a3 = some r) :
  Calls Try.prog 21 #[.int .i64 a0,.int .i64 a1,.string a2,.int .i64 a3] w fun e w'=>e = .returned (.bool r)∧Drawn0 w w':=by
 have H:(if a0 = 1 then ((impl_inRange.f a1 0 1000000000000).bind fun t743=>(if t743 = true then (if a2.toList = ([]:List UInt8) then (some (a3 == 0)) else (some false)) else (some false))) else (if a0 = 2 then (if a1 = 0 then ((impl_xAtomOk.f k a2).bind fun t744=>(if t744 = true then (some (a3 == 0)) else (some false))) else (some false)) else (if a0 = 3 then (if a1 = 0 then ((impl_varOk.f k a2).bind fun t745=>(if t745 = true then (some (a3 == 0)) else (some false))) else (some false)) else (if a0 = 4 then (impl_shapeOk.j0 k a1 a2 a3 a0 (a0 == 4)) else (impl_shapeOk.j0 k a1 a2 a3 a0 (a0 == 5)))))) = some r:=h;clear h
 by_cases c5:a0 = 1
 ·rw [if_pos c5] at H
  have c5b0:(a0 == 1) = true:=beq_iff_eq.mpr c5;have c5b1:(a0 != 1) = false:=bne_eq_false_iff_eq.mpr c5;clear c5;replace H:=Option.bind_eq_some_iff.mp H;obtain ⟨t743,A60,H⟩:=H;replace H:(if t743 = true then (if a2.toList = ([]:List UInt8) then (some (a3 == 0)) else (some false)) else (some false)) = some r:=H;have A6:=Aside0.mk A60;clear A60
  by_cases c7:t743 = true
  ·subst c7
   have H1:(if a2.toList = ([]:List UInt8) then (some (a3 == 0)) else (some false)) = some r:=by rw [if_pos rfl] at H;exact H
   clear H;have H:=H1;clear H1
   by_cases c8:a2.toList = ([]:List UInt8)
   ·rw [if_pos c8] at H
    have c8b0:(a2.toList == ([]:List UInt8)) = true:=beq_iff_eq.mpr c8;have c8b1:(a2.toList != ([]:List UInt8)) = false:=bne_eq_false_iff_eq.mpr c8;clear c8;obtain rfl:=Option.some.inj H
    go_enter Try.func21,Try.ntmps21
    go_wp2_with (first|((with_reducible refine gate_callee (f:=32) rfl ?_);refine goesL_ (some 13) rfl rfl Try.func32 (by kernel_rfl) rfl #[.int .i64 a1,.int .i64 0,.int .i64 1000000000000] rfl gs ?_;(with_reducible refine (impl_inRange.calls a1 0 1000000000000 true _ A6.out).mono ?_);rintro e w' ⟨rfl,⟨nd,rfl⟩⟩;refine ⟨_,rfl,?_⟩))
    go_ret
    exact ⟨cl2,d0⟩
   ·rw [if_neg c8] at H
    have c8b0:(a2.toList == ([]:List UInt8)) = false:=beq_eq_false_iff_ne.mpr c8;have c8b1:(a2.toList != ([]:List UInt8)) = true:=bne_iff_ne.mpr c8;obtain rfl:=Option.some.inj H
    go_enter Try.func21,Try.ntmps21
    go_wp2_with (first|((with_reducible refine gate_callee (f:=32) rfl ?_);refine goesL_ (some 13) rfl rfl Try.func32 (by kernel_rfl) rfl #[.int .i64 a1,.int .i64 0,.int .i64 1000000000000] rfl gs ?_;(with_reducible refine (impl_inRange.calls a1 0 1000000000000 true _ A6.out).mono ?_);rintro e w' ⟨rfl,⟨nd,rfl⟩⟩;refine ⟨_,rfl,?_⟩))
    go_ret
    exact ⟨cl2,d0⟩
  ·replace c7:=Bool.eq_false_iff.mpr c7
   subst c7;have H1:(some false) = some r:=nt H
   clear H;have H:=H1;clear H1;obtain rfl:=Option.some.inj H
   go_enter Try.func21,Try.ntmps21
   go_wp2_with (first|((with_reducible refine gate_callee (f:=32) rfl ?_);refine goesL_ (some 13) rfl rfl Try.func32 (by kernel_rfl) rfl #[.int .i64 a1,.int .i64 0,.int .i64 1000000000000] rfl gs ?_;(with_reducible refine (impl_inRange.calls a1 0 1000000000000 false _ A6.out).mono ?_);rintro e w' ⟨rfl,⟨nd,rfl⟩⟩;refine ⟨_,rfl,?_⟩))
   go_ret
   exact ⟨cl2,d0⟩
 ·rw [if_neg c5] at H
  have c5b0:(a0 == 1) = false:=beq_eq_false_iff_ne.mpr c5;have c5b1:(a0 != 1) = true:=bne_iff_ne.mpr c5
  by_cases c9:a0 = 2
  ·rw [if_pos c9] at H
   have c9b0:(a0 == 2) = true:=beq_iff_eq.mpr c9;have c9b1:(a0 != 2) = false:=bne_eq_false_iff_eq.mpr c9;clear c9
   by_cases c10:a1 = 0
   ·rw [if_pos c10] at H
    have c10b0:(a1 == 0) = true:=beq_iff_eq.mpr c10;have c10b1:(a1 != 0) = false:=bne_eq_false_iff_eq.mpr c10;clear c10;replace H:=Option.bind_eq_some_iff.mp H;obtain ⟨t744,A110,H⟩:=H;replace H:(if t744 = true then (some (a3 == 0)) else (some false)) = some r:=H;have A11:=Aside0.mk A110;clear A110
    by_cases c12:t744 = true
    ·subst c12
     have H1:(some (a3 == 0)) = some r:=by rw [if_pos rfl] at H;exact H
     clear H;have H:=H1;clear H1;obtain rfl:=Option.some.inj H
     go_enter Try.func21,Try.ntmps21
     go_wp2_with (first|(go_at_call 33;(with_reducible refine (impl_xAtomOk.calls k a2 true _ A11.out).mono ?_);rintro e w' ⟨rfl,⟨nd,rfl⟩⟩))
     go_ret
     exact ⟨cl2,d0⟩
    ·replace c12:=Bool.eq_false_iff.mpr c12
     subst c12;have H1:(some false) = some r:=nt H
     clear H;have H:=H1;clear H1;obtain rfl:=Option.some.inj H
     go_enter Try.func21,Try.ntmps21
     go_wp2_with (first|(go_at_call 33;(with_reducible refine (impl_xAtomOk.calls k a2 false _ A11.out).mono ?_);rintro e w' ⟨rfl,⟨nd,rfl⟩⟩))
     go_ret
     exact ⟨cl2,d0⟩
   ·rw [if_neg c10] at H
    have c10b0:(a1 == 0) = false:=beq_eq_false_iff_ne.mpr c10;have c10b1:(a1 != 0) = true:=bne_iff_ne.mpr c10;obtain rfl:=Option.some.inj H
    go_enter Try.func21,Try.ntmps21
    go_wp2
    go_ret
    exact ⟨cl2,d0⟩
  ·rw [if_neg c9] at H
   have c9b0:(a0 == 2) = false:=beq_eq_false_iff_ne.mpr c9;have c9b1:(a0 != 2) = true:=bne_iff_ne.mpr c9
   by_cases c13:a0 = 3
   ·rw [if_pos c13] at H
    have c13b0:(a0 == 3) = true:=beq_iff_eq.mpr c13;have c13b1:(a0 != 3) = false:=bne_eq_false_iff_eq.mpr c13;clear c13
    by_cases c14:a1 = 0
    ·rw [if_pos c14] at H
     have c14b0:(a1 == 0) = true:=beq_iff_eq.mpr c14;have c14b1:(a1 != 0) = false:=bne_eq_false_iff_eq.mpr c14;clear c14;replace H:=Option.bind_eq_some_iff.mp H;obtain ⟨t745,A150,H⟩:=H;replace H:(if t745 = true then (some (a3 == 0)) else (some false)) = some r:=H;have A15:=Aside0.mk A150;clear A150
     by_cases c16:t745 = true
     ·subst c16
      have H1:(some (a3 == 0)) = some r:=by rw [if_pos rfl] at H;exact H
      clear H;have H:=H1;clear H1;obtain rfl:=Option.some.inj H
      go_enter Try.func21,Try.ntmps21
      go_wp2_with (first|(go_at_call 34;(with_reducible refine (impl_varOk.calls k a2 true _ A15.out).mono ?_);rintro e w' ⟨rfl,⟨nd,rfl⟩⟩))
      go_ret
      exact ⟨cl2,d0⟩
     ·replace c16:=Bool.eq_false_iff.mpr c16
      subst c16;have H1:(some false) = some r:=nt H
      clear H;have H:=H1;clear H1;obtain rfl:=Option.some.inj H
      go_enter Try.func21,Try.ntmps21
      go_wp2_with (first|(go_at_call 34;(with_reducible refine (impl_varOk.calls k a2 false _ A15.out).mono ?_);rintro e w' ⟨rfl,⟨nd,rfl⟩⟩))
      go_ret
      exact ⟨cl2,d0⟩
    ·rw [if_neg c14] at H
     have c14b0:(a1 == 0) = false:=beq_eq_false_iff_ne.mpr c14;have c14b1:(a1 != 0) = true:=bne_iff_ne.mpr c14;obtain rfl:=Option.some.inj H
     go_enter Try.func21,Try.ntmps21
     go_wp2
     go_ret
     exact ⟨cl2,d0⟩
   ·rw [if_neg c13] at H
    have c13b0:(a0 == 3) = false:=beq_eq_false_iff_ne.mpr c13;have c13b1:(a0 != 3) = true:=bne_iff_ne.mpr c13;have HC17:=Aside0.mk H;clear H
    go_enter Try.func21,Try.ntmps21
    go_upto_if 46 with (fail)
    go_cut [46] (fun v46 wc=>∃ (kq:Nat) (x46_16:Bool),v46 = .bool x46_16∧Aside0 (impl_shapeOk.j0 kq a1 a2 a3 a0 x46_16 = some r)∧Aside0 (kq≤k)∧Drawn0 w wc)
    case first =>
     have H:=HC17.out;clear HC17
     by_cases c18:a0 = 4
     ·rw [if_pos c18] at H
      have c18b0:(a0 == 4) = true:=beq_iff_eq.mpr c18;have c18b1:(a0 != 4) = false:=bne_eq_false_iff_eq.mpr c18;clear c18
      (first|rw [c18b0]|(simp only [i64_w,i32_w];rw [c18b0])|(simp only [c18b2,Bool.not_true,Bool.not_false])|skip)
      have H':=Aside0.mk H;clear H
      go_wp2
      go_meet
      case rel=>exact ⟨_,((a0 == 4)),(cl2),H',⟨by first|omega|exact Nat.le_refl _⟩,d0⟩
     ·rw [if_neg c18] at H
      have c18b0:(a0 == 4) = false:=beq_eq_false_iff_ne.mpr c18;have c18b1:(a0 != 4) = true:=bne_iff_ne.mpr c18
      (first|rw [c18b0]|(simp only [i64_w,i32_w];rw [c18b0])|(simp only [c18b2,Bool.not_true,Bool.not_false])|skip)
      have H':=Aside0.mk H;clear H
      go_wp2
      go_meet
      case rel=>exact ⟨_,((a0 == 5)),(cl2),H',⟨by first|omega|exact Nat.le_refl _⟩,d0⟩
    case rest =>
     clear HC17;(try clear c5);(try clear c5b0);(try clear c5b1);(try clear c9);(try clear c9b0);(try clear c9b1);(try clear c13);(try clear c13b0);(try clear c13b1);obtain ⟨kq,x46_16,rfl,HA,HJ16,⟨mc16,rfl⟩⟩:=hcut
     cases kq with
     | zero=>exact absurd HA.out (by simp [impl_shapeOk.j0])
     | succ kj16 =>
      have H:=HA.out;clear HA;simp only [impl_shapeOk.j0] at H
      by_cases c19:x46_16 = true
      ·subst c19
       have H1:(if a1 = 0 then (if a2.toList = ([]:List UInt8) then (some (decide (a3≤20))) else (some false)) else (some false)) = some r:=by rw [if_pos rfl] at H;exact H
       clear H;have H:=H1;clear H1
       by_cases c20:a1 = 0
       ·rw [if_pos c20] at H
        have c20b0:(a1 == 0) = true:=beq_iff_eq.mpr c20;have c20b1:(a1 != 0) = false:=bne_eq_false_iff_eq.mpr c20;clear c20
        by_cases c21:a2.toList = ([]:List UInt8)
        ·rw [if_pos c21] at H
         have c21b0:(a2.toList == ([]:List UInt8)) = true:=beq_iff_eq.mpr c21;have c21b1:(a2.toList != ([]:List UInt8)) = false:=bne_eq_false_iff_eq.mpr c21;clear c21;obtain rfl:=Option.some.inj H
         go_wp2
         go_ret
         exact ⟨cl2,d0⟩
        ·rw [if_neg c21] at H
         have c21b0:(a2.toList == ([]:List UInt8)) = false:=beq_eq_false_iff_ne.mpr c21;have c21b1:(a2.toList != ([]:List UInt8)) = true:=bne_iff_ne.mpr c21;obtain rfl:=Option.some.inj H
         go_wp2
         go_ret
         exact ⟨cl2,d0⟩
       ·rw [if_neg c20] at H
        have c20b0:(a1 == 0) = false:=beq_eq_false_iff_ne.mpr c20;have c20b1:(a1 != 0) = true:=bne_iff_ne.mpr c20;obtain rfl:=Option.some.inj H
        go_wp2
        go_ret
        exact ⟨cl2,d0⟩
      ·replace c19:=Bool.eq_false_iff.mpr c19
       subst c19;have H1:(if a0 = 6 then (if a1 = 0 then (if a2.toList = ([]:List UInt8) then ((impl_inRange.f a3 2 6).bind fun t746=>(some t746)) else (some false)) else (some false)) else (if a0 = 7 then (if a1 = 0 then ((impl_isOp.f a2).bind fun t747=>(if t747 = true then (some (a3 == 2)) else (some false))) else (some false)) else (if a0 = 8 then (if a1 = 0 then ((impl_xAtomOk.f kj16 a2).bind fun t748=>(if t748 = true then (some (decide (a3≤4))) else (some false))) else (some false)) else (if a0 = 9 then (if a1 = 0 then (if a2.toList = ([]:List UInt8) then (some (a3 == 1)) else (some false)) else (some false)) else (some false))))) = some r:=nt H
       clear H;have H:=H1;clear H1
       by_cases c22:a0 = 6
       ·rw [if_pos c22] at H
        have c22b0:(a0 == 6) = true:=beq_iff_eq.mpr c22;have c22b1:(a0 != 6) = false:=bne_eq_false_iff_eq.mpr c22;clear c22
        by_cases c23:a1 = 0
        ·rw [if_pos c23] at H
         have c23b0:(a1 == 0) = true:=beq_iff_eq.mpr c23;have c23b1:(a1 != 0) = false:=bne_eq_false_iff_eq.mpr c23;clear c23
         by_cases c24:a2.toList = ([]:List UInt8)
         ·rw [if_pos c24] at H
          have c24b0:(a2.toList == ([]:List UInt8)) = true:=beq_iff_eq.mpr c24;have c24b1:(a2.toList != ([]:List UInt8)) = false:=bne_eq_false_iff_eq.mpr c24;clear c24;replace H:=Option.bind_eq_some_iff.mp H;obtain ⟨t746,A250,H⟩:=H;replace H:(some t746) = some r:=H;have A25:=Aside0.mk A250;clear A250;obtain rfl:=Option.some.inj H
          go_wp2_with (first|(go_at_call 32;(with_reducible refine (impl_inRange.calls a3 2 6 t746 _ A25.out).mono ?_);rintro e w' ⟨rfl,⟨nd,rfl⟩⟩))
          go_ret
          exact ⟨cl2,d0⟩
         ·rw [if_neg c24] at H
          have c24b0:(a2.toList == ([]:List UInt8)) = false:=beq_eq_false_iff_ne.mpr c24;have c24b1:(a2.toList != ([]:List UInt8)) = true:=bne_iff_ne.mpr c24;obtain rfl:=Option.some.inj H
          go_wp2
          go_ret
          exact ⟨cl2,d0⟩
        ·rw [if_neg c23] at H
         have c23b0:(a1 == 0) = false:=beq_eq_false_iff_ne.mpr c23;have c23b1:(a1 != 0) = true:=bne_iff_ne.mpr c23;obtain rfl:=Option.some.inj H
         go_wp2
         go_ret
         exact ⟨cl2,d0⟩
       ·rw [if_neg c22] at H
        have c22b0:(a0 == 6) = false:=beq_eq_false_iff_ne.mpr c22;have c22b1:(a0 != 6) = true:=bne_iff_ne.mpr c22
        by_cases c26:a0 = 7
        ·rw [if_pos c26] at H
         have c26b0:(a0 == 7) = true:=beq_iff_eq.mpr c26;have c26b1:(a0 != 7) = false:=bne_eq_false_iff_eq.mpr c26;clear c26
         by_cases c27:a1 = 0
         ·rw [if_pos c27] at H
          have c27b0:(a1 == 0) = true:=beq_iff_eq.mpr c27;have c27b1:(a1 != 0) = false:=bne_eq_false_iff_eq.mpr c27;clear c27;replace H:=Option.bind_eq_some_iff.mp H;obtain ⟨t747,A280,H⟩:=H;replace H:(if t747 = true then (some (a3 == 2)) else (some false)) = some r:=H;have A28:=Aside0.mk A280;clear A280
          by_cases c29:t747 = true
          ·subst c29
           have H1:(some (a3 == 2)) = some r:=by rw [if_pos rfl] at H;exact H
           clear H;have H:=H1;clear H1;obtain rfl:=Option.some.inj H
           go_wp2_with (first|(go_at_call 35;(with_reducible refine (impl_isOp.calls a2 true _ A28.out).mono ?_);rintro e w' ⟨rfl,⟨nd,rfl⟩⟩))
           go_ret
           exact ⟨cl2,d0⟩
          ·replace c29:=Bool.eq_false_iff.mpr c29
           subst c29;have H1:(some false) = some r:=nt H
           clear H;have H:=H1;clear H1;obtain rfl:=Option.some.inj H
           go_wp2_with (first|(go_at_call 35;(with_reducible refine (impl_isOp.calls a2 false _ A28.out).mono ?_);rintro e w' ⟨rfl,⟨nd,rfl⟩⟩))
           go_ret
           exact ⟨cl2,d0⟩
         ·rw [if_neg c27] at H
          have c27b0:(a1 == 0) = false:=beq_eq_false_iff_ne.mpr c27;have c27b1:(a1 != 0) = true:=bne_iff_ne.mpr c27;obtain rfl:=Option.some.inj H
          go_wp2
          go_ret
          exact ⟨cl2,d0⟩
        ·rw [if_neg c26] at H
         have c26b0:(a0 == 7) = false:=beq_eq_false_iff_ne.mpr c26;have c26b1:(a0 != 7) = true:=bne_iff_ne.mpr c26
         by_cases c30:a0 = 8
         ·rw [if_pos c30] at H
          have c30b0:(a0 == 8) = true:=beq_iff_eq.mpr c30;have c30b1:(a0 != 8) = false:=bne_eq_false_iff_eq.mpr c30;clear c30
          by_cases c31:a1 = 0
          ·rw [if_pos c31] at H
           have c31b0:(a1 == 0) = true:=beq_iff_eq.mpr c31;have c31b1:(a1 != 0) = false:=bne_eq_false_iff_eq.mpr c31;clear c31;replace H:=Option.bind_eq_some_iff.mp H;obtain ⟨t748,A320,H⟩:=H;replace H:(if t748 = true then (some (decide (a3≤4))) else (some false)) = some r:=H;have A32:=Aside0.mk A320;clear A320
           by_cases c33:t748 = true
           ·subst c33
            have H1:(some (decide (a3≤4))) = some r:=by rw [if_pos rfl] at H;exact H
            clear H;have H:=H1;clear H1;obtain rfl:=Option.some.inj H
            go_wp2_with (first|(go_at_call 33;(with_reducible refine (impl_xAtomOk.calls kj16 a2 true _ A32.out).mono ?_);rintro e w' ⟨rfl,⟨nd,rfl⟩⟩))
            go_ret
            exact ⟨cl2,d0⟩
           ·replace c33:=Bool.eq_false_iff.mpr c33
            subst c33;have H1:(some false) = some r:=nt H
            clear H;have H:=H1;clear H1;obtain rfl:=Option.some.inj H
            go_wp2_with (first|(go_at_call 33;(with_reducible refine (impl_xAtomOk.calls kj16 a2 false _ A32.out).mono ?_);rintro e w' ⟨rfl,⟨nd,rfl⟩⟩))
            go_ret
            exact ⟨cl2,d0⟩
          ·rw [if_neg c31] at H
           have c31b0:(a1 == 0) = false:=beq_eq_false_iff_ne.mpr c31;have c31b1:(a1 != 0) = true:=bne_iff_ne.mpr c31;obtain rfl:=Option.some.inj H
           go_wp2
           go_ret
           exact ⟨cl2,d0⟩
         ·rw [if_neg c30] at H
          have c30b0:(a0 == 8) = false:=beq_eq_false_iff_ne.mpr c30;have c30b1:(a0 != 8) = true:=bne_iff_ne.mpr c30
          by_cases c34:a0 = 9
          ·rw [if_pos c34] at H
           have c34b0:(a0 == 9) = true:=beq_iff_eq.mpr c34;have c34b1:(a0 != 9) = false:=bne_eq_false_iff_eq.mpr c34;clear c34
           by_cases c35:a1 = 0
           ·rw [if_pos c35] at H
            have c35b0:(a1 == 0) = true:=beq_iff_eq.mpr c35;have c35b1:(a1 != 0) = false:=bne_eq_false_iff_eq.mpr c35;clear c35
            by_cases c36:a2.toList = ([]:List UInt8)
            ·rw [if_pos c36] at H
             have c36b0:(a2.toList == ([]:List UInt8)) = true:=beq_iff_eq.mpr c36;have c36b1:(a2.toList != ([]:List UInt8)) = false:=bne_eq_false_iff_eq.mpr c36;clear c36;obtain rfl:=Option.some.inj H
             go_wp2
             go_ret
             exact ⟨cl2,d0⟩
            ·rw [if_neg c36] at H
             have c36b0:(a2.toList == ([]:List UInt8)) = false:=beq_eq_false_iff_ne.mpr c36;have c36b1:(a2.toList != ([]:List UInt8)) = true:=bne_iff_ne.mpr c36;obtain rfl:=Option.some.inj H
             go_wp2
             go_ret
             exact ⟨cl2,d0⟩
           ·rw [if_neg c35] at H
            have c35b0:(a1 == 0) = false:=beq_eq_false_iff_ne.mpr c35;have c35b1:(a1 != 0) = true:=bne_iff_ne.mpr c35;obtain rfl:=Option.some.inj H
            go_wp2
            go_ret
            exact ⟨cl2,d0⟩
          ·rw [if_neg c34] at H
           have c34b0:(a0 == 9) = false:=beq_eq_false_iff_ne.mpr c34;have c34b1:(a0 != 9) = true:=bne_iff_ne.mpr c34;obtain rfl:=Option.some.inj H
           go_wp2
           go_ret
           exact ⟨cl2,d0⟩

end Go.Proofs.Ytaobcdpadpkngaa.QFnPatterns
