-- Written by a program of this workplace (print2.py) for this claim, over the print's words.
import Derived.Test.YtefkjmkmojmllaaQFnExactGetTermx0
import Derived.Test.YtefkjmkmojmllaaQFnExactGetTermx4
import Derived.Test.YtefkjmkmojmllaaQFnExactGetTermx5
namespace Go.Proofs.Ytefkjmkmojmllaa.QFnExactGetTerm
open Go.RowKit Go.Proofs.YtefkjmkmojmllaaW.PrintWords Go.Proofs.YtefkjmkmojmllaaW.PrintLast Go.Proofs.YtefkjmkmojmllaaW.PrintMore
attribute [local go_sem] max2_int min2_int max_two min_two max_three min_three max_four min_four   -- for this text's walks alone
set_option linter.unusedVariables false
set_option linter.unusedSimpArgs false

/-! ### impl_AtomOk: function 38 -/
def impl_AtomOk.l0:Nat → ByteArray → Int → Option (Bool)
 | 0,_,_=>none
 | k + 1,x0,x3=>if x3 < (x0.size:Int) then (if 0≤x3 then ((impl_isSmall.f (bt x0 x3)).bind fun t219=>(if t219 = true then (impl_AtomOk.l0 k x0 (wrap64 (x3 + 1))) else (if x3 = 0 then (some false) else ((impl_isFigure.f (bt x0 x3)).bind fun t220=>(if t220 = true then (impl_AtomOk.l0 k x0 (wrap64 (x3 + 1))) else (if (bt x0 x3) = 95 then (impl_AtomOk.l0 k x0 (wrap64 (x3 + 1))) else (some false))))))) else (none)) else ((impl_inRange.f (x0.size:Int) 1 20).bind fun t218=>(some t218))
def impl_AtomOk.f (k:Nat) (a0:ByteArray):Option (Bool):=impl_AtomOk.l0 k a0 0
theorem impl_AtomOk.mono_l:∀ k,(∀ y0 y1,LeO (impl_AtomOk.l0 k y0 y1) (impl_AtomOk.l0 (k + 1) y0 y1))
 | 0=>fun _ _ r h=>by simp [impl_AtomOk.l0] at h
 | k + 1=>by
  have ih0:=impl_AtomOk.mono_l k
  ·intro y0 y1
   unfold impl_AtomOk.l0
   with_reducible repeat' first|apply ih0|apply LeO.refl|apply LeO.none|apply LeO.ite|refine LeO.bind ?_ (fun _=>?_)
theorem impl_AtomOk.mono:∀ a0 k,LeO (impl_AtomOk.f k a0) (impl_AtomOk.f (k + 1) a0):=by
 intro a0 k;have ih0:=impl_AtomOk.mono_l k
 unfold impl_AtomOk.f
 with_reducible repeat' first|apply ih0|apply LeO.refl|apply LeO.none|apply LeO.ite|refine LeO.bind ?_ (fun _=>?_)
set_option maxHeartbeats 8000000 in
set_option maxRecDepth 100000 in
theorem impl_AtomOk.calls (k:Nat) (a0:ByteArray) (r:Bool) (w:World) (h:impl_AtomOk.f k a0 = some r) :
  Calls Try.prog 38 #[.string a0] w fun e w'=>e = .returned (.bool r)∧Drawn0 w w':=by
 have H:(impl_AtomOk.l0 k a0 0) = some r:=h;clear h;have H':=Aside0.mk H;clear H
 go_enter Try.func38,Try.ntmps38
 go_wp2
 go_loopg [3] k (fun kq v3 w'=>∃ (x3_1:Int),v3 = .int .i64 x3_1∧Aside0 (impl_AtomOk.l0 kq a0 x3_1 = some r)∧Aside0 (kq≤k)∧Drawn0 w w')
 case atStart=>exact ⟨(0),(cl2),H',⟨Nat.le_refl _⟩,by repeat (first|exact Drawn0.refl _|apply Drawn0.step)⟩
 case round =>
  clear H';obtain ⟨x3_1,rfl,HA,HK1,⟨m1,rfl⟩⟩:=hrel
  cases gk with
  | zero=>exact absurd HA.out (by simp [impl_AtomOk.l0])
  | succ k1 =>
   have H:=HA.out;clear HA;simp only [impl_AtomOk.l0] at H
   by_cases c2:x3_1 < (a0.size:Int)
   ·rw [if_pos c2] at H
    have c2b0:decide (x3_1 < (a0.size:Int)) = true:=decide_eq_true c2;clear c2
    by_cases c3:0≤x3_1
    ·rw [if_pos c3] at H
     have c3b0:decide (0≤x3_1) = true:=decide_eq_true c3;clear c3;replace H:=Option.bind_eq_some_iff.mp H;obtain ⟨t219,A50,H⟩:=H;replace H:(if t219 = true then (impl_AtomOk.l0 k1 a0 (wrap64 (x3_1 + 1))) else (if x3_1 = 0 then (some false) else ((impl_isFigure.f (bt a0 x3_1)).bind fun t220=>(if t220 = true then (impl_AtomOk.l0 k1 a0 (wrap64 (x3_1 + 1))) else (if (bt a0 x3_1) = 95 then (impl_AtomOk.l0 k1 a0 (wrap64 (x3_1 + 1))) else (some false)))))) = some r:=H;have A5:=Aside0.mk A50;clear A50
     by_cases c6:t219 = true
     ·subst c6
      have H1:(impl_AtomOk.l0 k1 a0 (wrap64 (x3_1 + 1))) = some r:=by rw [if_pos rfl] at H;exact H
      clear H;have H:=H1;clear H1;have H':=Aside0.mk H;clear H;have p4:0≤(x3_1:Int):=od;have q4:x3_1 < (a0.size:Int):=od;have hx4:=bt_at a0 x3_1;replace p4:=eq_true p4;replace q4:=eq_true q4
      go_wp2_with (first|((with_reducible refine gate_callee (f:=39) rfl ?_);refine goesL_ (some 13) rfl rfl Try.func39 (by kernel_rfl) rfl #[.int .u8 (bt a0 x3_1)] rfl gs ?_;(with_reducible refine (impl_isSmall.calls (bt a0 x3_1) true _ A5.out).mono ?_);rintro e w' ⟨rfl,⟨nd,rfl⟩⟩;refine ⟨_,rfl,?_⟩))
      go_roundg k1
      case measure=>have:=HK1.out;omega
      case rel=>exact ⟨(wrap64 (x3_1 + 1)),(cl2),H',⟨by have:=HK1.out;omega⟩,by repeat (first|exact Drawn0.refl _|apply Drawn0.step)⟩
     ·replace c6:=Bool.eq_false_iff.mpr c6
      subst c6;have H1:(if x3_1 = 0 then (some false) else ((impl_isFigure.f (bt a0 x3_1)).bind fun t220=>(if t220 = true then (impl_AtomOk.l0 k1 a0 (wrap64 (x3_1 + 1))) else (if (bt a0 x3_1) = 95 then (impl_AtomOk.l0 k1 a0 (wrap64 (x3_1 + 1))) else (some false))))) = some r:=by rw [if_neg (show ¬ (false = true) by decide)] at H;exact H
      clear H;have H:=H1;clear H1
      by_cases c7:x3_1 = 0
      ·rw [if_pos c7] at H
       have c7b0:(x3_1 == 0) = true:=beq_iff_eq.mpr c7;have c7b1:(x3_1 != 0) = false:=bne_eq_false_iff_eq.mpr c7;clear c7;obtain rfl:=Option.some.inj H;have p4:0≤(x3_1:Int):=od;have q4:x3_1 < (a0.size:Int):=od;have hx4:=bt_at a0 x3_1;replace p4:=eq_true p4;replace q4:=eq_true q4
       go_wp2_with (first|((with_reducible refine gate_callee (f:=39) rfl ?_);refine goesL_ (some 13) rfl rfl Try.func39 (by kernel_rfl) rfl #[.int .u8 (bt a0 x3_1)] rfl gs ?_;(with_reducible refine (impl_isSmall.calls (bt a0 x3_1) false _ A5.out).mono ?_);rintro e w' ⟨rfl,⟨nd,rfl⟩⟩;refine ⟨_,rfl,?_⟩))
       go_ret
       exact ⟨cl2,by repeat (first|exact Drawn0.refl _|apply Drawn0.step)⟩
      ·rw [if_neg c7] at H
       have c7b0:(x3_1 == 0) = false:=beq_eq_false_iff_ne.mpr c7;have c7b1:(x3_1 != 0) = true:=bne_iff_ne.mpr c7;replace H:=Option.bind_eq_some_iff.mp H;obtain ⟨t220,A90,H⟩:=H;replace H:(if t220 = true then (impl_AtomOk.l0 k1 a0 (wrap64 (x3_1 + 1))) else (if (bt a0 x3_1) = 95 then (impl_AtomOk.l0 k1 a0 (wrap64 (x3_1 + 1))) else (some false))) = some r:=H;have A9:=Aside0.mk A90;clear A90
       by_cases c10:t220 = true
       ·subst c10
        have H1:(impl_AtomOk.l0 k1 a0 (wrap64 (x3_1 + 1))) = some r:=by rw [if_pos rfl] at H;exact H
        clear H;have H:=H1;clear H1;have H':=Aside0.mk H;clear H;have p4:0≤(x3_1:Int):=od;have q4:x3_1 < (a0.size:Int):=od;have hx4:=bt_at a0 x3_1;replace p4:=eq_true p4;replace q4:=eq_true q4
        go_wp2_with (first|((with_reducible refine gate_callee (f:=39) rfl ?_);refine goesL_ (some 13) rfl rfl Try.func39 (by kernel_rfl) rfl #[.int .u8 (bt a0 x3_1)] rfl gs ?_;(with_reducible refine (impl_isSmall.calls (bt a0 x3_1) false _ A5.out).mono ?_);rintro e w' ⟨rfl,⟨nd,rfl⟩⟩;refine ⟨_,rfl,?_⟩;have p8:0≤(x3_1:Int):=od;have q8:x3_1 < (a0.size:Int):=od;have hx8:=bt_at a0 x3_1;replace p8:=eq_true p8;replace q8:=eq_true q8)|(go_at_call 40;(with_reducible refine (impl_isFigure.calls (bt a0 x3_1) true _ A9.out).mono ?_);rintro e w' ⟨rfl,⟨nd,rfl⟩⟩))
        go_roundg k1
        case measure=>have:=HK1.out;omega
        case rel=>exact ⟨(wrap64 (x3_1 + 1)),(cl2),H',⟨by have:=HK1.out;omega⟩,by repeat (first|exact Drawn0.refl _|apply Drawn0.step)⟩
       ·replace c10:=Bool.eq_false_iff.mpr c10
        subst c10;have H1:(if (bt a0 x3_1) = 95 then (impl_AtomOk.l0 k1 a0 (wrap64 (x3_1 + 1))) else (some false)) = some r:=by rw [if_neg (show ¬ (false = true) by decide)] at H;exact H
        clear H;have H:=H1;clear H1
        by_cases c12:(bt a0 x3_1) = 95
        ·rw [if_pos c12] at H
         have c12b0:((bt a0 x3_1) == 95) = true:=beq_iff_eq.mpr c12;have c12b1:((bt a0 x3_1) != 95) = false:=bne_eq_false_iff_eq.mpr c12;clear c12;have H':=Aside0.mk H;clear H;have p4:0≤(x3_1:Int):=od;have q4:x3_1 < (a0.size:Int):=od;have hx4:=bt_at a0 x3_1;replace p4:=eq_true p4;replace q4:=eq_true q4
         go_wp2_with (first|((with_reducible refine gate_callee (f:=39) rfl ?_);refine goesL_ (some 13) rfl rfl Try.func39 (by kernel_rfl) rfl #[.int .u8 (bt a0 x3_1)] rfl gs ?_;(with_reducible refine (impl_isSmall.calls (bt a0 x3_1) false _ A5.out).mono ?_);rintro e w' ⟨rfl,⟨nd,rfl⟩⟩;refine ⟨_,rfl,?_⟩;have p8:0≤(x3_1:Int):=od;have q8:x3_1 < (a0.size:Int):=od;have hx8:=bt_at a0 x3_1;replace p8:=eq_true p8;replace q8:=eq_true q8)|(go_at_call 40;(with_reducible refine (impl_isFigure.calls (bt a0 x3_1) false _ A9.out).mono ?_);rintro e w' ⟨rfl,⟨nd,rfl⟩⟩;have p11:0≤(x3_1:Int):=od;have q11:x3_1 < (a0.size:Int):=od;have hx11:=bt_at a0 x3_1;replace p11:=eq_true p11;replace q11:=eq_true q11))
         go_roundg k1
         case measure=>have:=HK1.out;omega
         case rel=>exact ⟨(wrap64 (x3_1 + 1)),(cl2),H',⟨by have:=HK1.out;omega⟩,by repeat (first|exact Drawn0.refl _|apply Drawn0.step)⟩
        ·rw [if_neg c12] at H
         have c12b0:((bt a0 x3_1) == 95) = false:=beq_eq_false_iff_ne.mpr c12;have c12b1:((bt a0 x3_1) != 95) = true:=bne_iff_ne.mpr c12;obtain rfl:=Option.some.inj H;have p4:0≤(x3_1:Int):=od;have q4:x3_1 < (a0.size:Int):=od;have hx4:=bt_at a0 x3_1;replace p4:=eq_true p4;replace q4:=eq_true q4
         go_wp2_with (first|((with_reducible refine gate_callee (f:=39) rfl ?_);refine goesL_ (some 13) rfl rfl Try.func39 (by kernel_rfl) rfl #[.int .u8 (bt a0 x3_1)] rfl gs ?_;(with_reducible refine (impl_isSmall.calls (bt a0 x3_1) false _ A5.out).mono ?_);rintro e w' ⟨rfl,⟨nd,rfl⟩⟩;refine ⟨_,rfl,?_⟩;have p8:0≤(x3_1:Int):=od;have q8:x3_1 < (a0.size:Int):=od;have hx8:=bt_at a0 x3_1;replace p8:=eq_true p8;replace q8:=eq_true q8)|(go_at_call 40;(with_reducible refine (impl_isFigure.calls (bt a0 x3_1) false _ A9.out).mono ?_);rintro e w' ⟨rfl,⟨nd,rfl⟩⟩;have p11:0≤(x3_1:Int):=od;have q11:x3_1 < (a0.size:Int):=od;have hx11:=bt_at a0 x3_1;replace p11:=eq_true p11;replace q11:=eq_true q11))
         go_ret
         exact ⟨cl2,by repeat (first|exact Drawn0.refl _|apply Drawn0.step)⟩
    ·rw [if_neg c3] at H
     exact absurd H (by simp)
   ·rw [if_neg c2] at H
    have c2b0:decide (x3_1 < (a0.size:Int)) = false:=decide_eq_false c2;clear c2;replace H:=Option.bind_eq_some_iff.mp H;obtain ⟨t218,A130,H⟩:=H;replace H:(some t218) = some r:=H;have A13:=Aside0.mk A130;clear A130;obtain rfl:=Option.some.inj H
    go_wp2_with (first|((with_reducible refine gate_callee (f:=35) rfl ?_);refine goesL_ (some 34) rfl rfl Try.func35 (by kernel_rfl) rfl #[.int .i64 (a0.size:Int),.int .i64 1,.int .i64 20] rfl gs ?_;(with_reducible refine (impl_inRange.calls (a0.size:Int) 1 20 t218 _ A13.out).mono ?_);rintro e w' ⟨rfl,⟨nd,rfl⟩⟩;refine ⟨_,rfl,?_⟩))
    go_ret
    exact ⟨cl2,by repeat (first|exact Drawn0.refl _|apply Drawn0.step)⟩

/-! ### impl_Term_plainOk: function 36 -/
def impl_Term_plainOk.f (k:Nat) (a0_0:Int) (a0_1:Int) (a0_2:ByteArray) (l0_3:List (S25)):Option (Bool):=if a0_0 = 1 then ((impl_inRange.f a0_1 (-1000000000000) 1000000000000).bind fun t222=>(if t222 = true then (if a0_2.toList = ([]:List UInt8) then (some ((l0_3.length:Int) == 0)) else (some false)) else (some false))) else (if a0_0 = 2 then (if a0_1 = 0 then ((impl_AtomOk.f k a0_2).bind fun t223=>(if t223 = true then (some ((l0_3.length:Int) == 0)) else (some false))) else (some false)) else (if a0_0 = 3 then ((impl_inRange.f a0_1 0 1000000).bind fun t224=>(if t224 = true then (if a0_2.toList = ([]:List UInt8) then (some ((l0_3.length:Int) == 0)) else (some false)) else (some false))) else (if a0_0 = 4 then (if a0_1 = 0 then (if a0_2.toList = ([]:List UInt8) then (some (decide ((l0_3.length:Int)≤20))) else (some false)) else (some false)) else (if a0_0 = 5 then (if a0_1 = 0 then (if a0_2.toList = ([]:List UInt8) then (some (decide ((l0_3.length:Int)≤60))) else (some false)) else (some false)) else (some false)))))
theorem impl_Term_plainOk.mono:∀ a0 a1 a2 a3 k,LeO (impl_Term_plainOk.f k a0 a1 a2 a3) (impl_Term_plainOk.f (k + 1) a0 a1 a2 a3):=by
 intro a0 a1 a2 a3 k
 unfold impl_Term_plainOk.f
 with_reducible repeat' first|apply impl_AtomOk.mono|apply LeO.refl|apply LeO.none|apply LeO.ite|refine LeO.bind ?_ (fun _=>?_)
set_option maxHeartbeats 8000000 in
set_option maxRecDepth 100000 in
theorem impl_Term_plainOk.calls (k:Nat) (a0_0:Int) (a0_1:Int) (a0_2:ByteArray) (A0_3:Option Addr) (c0_3:Nat) (l0_3:List (S25)) (r:Bool) (w:World) (hr0_3:Kd.C k25 w A0_3 l0_3.length l0_3) (hc0_3:l0_3.length≤c0_3) (h:impl_Term_plainOk.f k a0_0 a0_1 a0_2 l0_3 = some r) :
  Calls Try.prog 36 #[.agg #[.int .i64 a0_0,.int .i64 a0_1,.string a0_2,.slice A0_3 l0_3.length c0_3]] w fun e w'=>e = .returned (.bool r)∧Below w.heap.size w w':=by
 have hu25:=Try.underlying25;have HR0_3:=Aside0.mk hr0_3;have HC0_3:=Aside0.mk hc0_3;clear hr0_3 hc0_3;have HB:=Aside0.mk (Below.refl w.heap.size w);have H:(if a0_0 = 1 then ((impl_inRange.f a0_1 (-1000000000000) 1000000000000).bind fun t222=>(if t222 = true then (if a0_2.toList = ([]:List UInt8) then (some ((l0_3.length:Int) == 0)) else (some false)) else (some false))) else (if a0_0 = 2 then (if a0_1 = 0 then ((impl_AtomOk.f k a0_2).bind fun t223=>(if t223 = true then (some ((l0_3.length:Int) == 0)) else (some false))) else (some false)) else (if a0_0 = 3 then ((impl_inRange.f a0_1 0 1000000).bind fun t224=>(if t224 = true then (if a0_2.toList = ([]:List UInt8) then (some ((l0_3.length:Int) == 0)) else (some false)) else (some false))) else (if a0_0 = 4 then (if a0_1 = 0 then (if a0_2.toList = ([]:List UInt8) then (some (decide ((l0_3.length:Int)≤20))) else (some false)) else (some false)) else (if a0_0 = 5 then (if a0_1 = 0 then (if a0_2.toList = ([]:List UInt8) then (some (decide ((l0_3.length:Int)≤60))) else (some false)) else (some false)) else (some false)))))) = some r:=h;clear h
 by_cases c2:a0_0 = 1
 ·rw [if_pos c2] at H
  have c2b0:(a0_0 == 1) = true:=beq_iff_eq.mpr c2;have c2b1:(a0_0 != 1) = false:=bne_eq_false_iff_eq.mpr c2;clear c2;replace H:=Option.bind_eq_some_iff.mp H;obtain ⟨t222,A30,H⟩:=H;replace H:(if t222 = true then (if a0_2.toList = ([]:List UInt8) then (some ((l0_3.length:Int) == 0)) else (some false)) else (some false)) = some r:=H;have A3:=Aside0.mk A30;clear A30
  by_cases c4:t222 = true
  ·subst c4
   have H1:(if a0_2.toList = ([]:List UInt8) then (some ((l0_3.length:Int) == 0)) else (some false)) = some r:=by rw [if_pos rfl] at H;exact H
   clear H;have H:=H1;clear H1
   by_cases c5:a0_2.toList = ([]:List UInt8)
   ·rw [if_pos c5] at H
    have c5b0:(a0_2.toList == ([]:List UInt8)) = true:=beq_iff_eq.mpr c5;have c5b1:(a0_2.toList != ([]:List UInt8)) = false:=bne_eq_false_iff_eq.mpr c5;clear c5;obtain rfl:=Option.some.inj H
    go_enter Try.func36,Try.ntmps36
    go_wp2_with (first|((with_reducible refine gate_dst (N:=1) rfl ?_);(try (refine gate_guard (by rfl) ?_;dsimp only));refine box_event ?hg (N:=1) ?hd (cs:=#[.int .i64 a0_0,.int .i64 a0_1,.string a0_2,.slice A0_3 l0_3.length c0_3]) (t:=25) ?hr ?_;(case hd=>rfl);(case hg=>rfl);(case hr=>first|(go_simp;done)|(go_simp;rfl));intro gb221 hg w6 hbox hb;have n_:=ai (bq HB hb) <| ai (Aside0.mk (hbox)) <| ai (bz hg HB) <| bz hg HB;clear HB;obtain ⟨HB,BK221,GW221,GE221⟩:=n_;clear hb hbox hg;obtain ⟨h7_0,h7_1,h7_2,h7_3⟩:=kb4 BK221.out;obtain ⟨z7_0,z7_1,z7_2,z7_3⟩:=kz4 BK221.out)|((with_reducible refine gate_callee (f:=35) rfl ?_);refine goesL_ (some 9) rfl rfl Try.func35 (by kernel_rfl) rfl #[.int .i64 a0_1,.int .i64 (-1000000000000),.int .i64 1000000000000] rfl gs ?_;(with_reducible refine (impl_inRange.calls a0_1 (-1000000000000) 1000000000000 true _ A3.out).mono ?_);rintro e w' ⟨rfl,⟨nd,rfl⟩⟩;refine ⟨_,rfl,?_⟩))
    go_ret
    exact ⟨cl,bl HB.out⟩
   ·rw [if_neg c5] at H
    have c5b0:(a0_2.toList == ([]:List UInt8)) = false:=beq_eq_false_iff_ne.mpr c5;have c5b1:(a0_2.toList != ([]:List UInt8)) = true:=bne_iff_ne.mpr c5;obtain rfl:=Option.some.inj H
    go_enter Try.func36,Try.ntmps36
    go_wp2_with (first|((with_reducible refine gate_dst (N:=1) rfl ?_);(try (refine gate_guard (by rfl) ?_;dsimp only));refine box_event ?hg (N:=1) ?hd (cs:=#[.int .i64 a0_0,.int .i64 a0_1,.string a0_2,.slice A0_3 l0_3.length c0_3]) (t:=25) ?hr ?_;(case hd=>rfl);(case hg=>rfl);(case hr=>first|(go_simp;done)|(go_simp;rfl));intro gb221 hg w8 hbox hb;have n_:=ai (bq HB hb) <| ai (Aside0.mk (hbox)) <| ai (bz hg HB) <| bz hg HB;clear HB;obtain ⟨HB,BK221,GW221,GE221⟩:=n_;clear hb hbox hg;obtain ⟨h9_0,h9_1,h9_2,h9_3⟩:=kb4 BK221.out;obtain ⟨z9_0,z9_1,z9_2,z9_3⟩:=kz4 BK221.out)|((with_reducible refine gate_callee (f:=35) rfl ?_);refine goesL_ (some 9) rfl rfl Try.func35 (by kernel_rfl) rfl #[.int .i64 a0_1,.int .i64 (-1000000000000),.int .i64 1000000000000] rfl gs ?_;(with_reducible refine (impl_inRange.calls a0_1 (-1000000000000) 1000000000000 true _ A3.out).mono ?_);rintro e w' ⟨rfl,⟨nd,rfl⟩⟩;refine ⟨_,rfl,?_⟩))
    go_ret
    exact ⟨cl,bl HB.out⟩
  ·replace c4:=Bool.eq_false_iff.mpr c4
   subst c4;have H1:(some false) = some r:=by rw [if_neg (show ¬ (false = true) by decide)] at H;exact H
   clear H;have H:=H1;clear H1;obtain rfl:=Option.some.inj H
   go_enter Try.func36,Try.ntmps36
   go_wp2_with (first|((with_reducible refine gate_dst (N:=1) rfl ?_);(try (refine gate_guard (by rfl) ?_;dsimp only));refine box_event ?hg (N:=1) ?hd (cs:=#[.int .i64 a0_0,.int .i64 a0_1,.string a0_2,.slice A0_3 l0_3.length c0_3]) (t:=25) ?hr ?_;(case hd=>rfl);(case hg=>rfl);(case hr=>first|(go_simp;done)|(go_simp;rfl));intro gb221 hg w10 hbox hb;have n_:=ai (bq HB hb) <| ai (Aside0.mk (hbox)) <| ai (bz hg HB) <| bz hg HB;clear HB;obtain ⟨HB,BK221,GW221,GE221⟩:=n_;clear hb hbox hg;obtain ⟨h11_0,h11_1,h11_2,h11_3⟩:=kb4 BK221.out;obtain ⟨z11_0,z11_1,z11_2,z11_3⟩:=kz4 BK221.out)|((with_reducible refine gate_callee (f:=35) rfl ?_);refine goesL_ (some 9) rfl rfl Try.func35 (by kernel_rfl) rfl #[.int .i64 a0_1,.int .i64 (-1000000000000),.int .i64 1000000000000] rfl gs ?_;(with_reducible refine (impl_inRange.calls a0_1 (-1000000000000) 1000000000000 false _ A3.out).mono ?_);rintro e w' ⟨rfl,⟨nd,rfl⟩⟩;refine ⟨_,rfl,?_⟩))
   go_ret
   exact ⟨cl,bl HB.out⟩
 ·rw [if_neg c2] at H
  have c2b0:(a0_0 == 1) = false:=beq_eq_false_iff_ne.mpr c2;have c2b1:(a0_0 != 1) = true:=bne_iff_ne.mpr c2
  by_cases c12:a0_0 = 2
  ·rw [if_pos c12] at H
   have c12b0:(a0_0 == 2) = true:=beq_iff_eq.mpr c12;have c12b1:(a0_0 != 2) = false:=bne_eq_false_iff_eq.mpr c12;clear c12
   by_cases c13:a0_1 = 0
   ·rw [if_pos c13] at H
    have c13b0:(a0_1 == 0) = true:=beq_iff_eq.mpr c13;have c13b1:(a0_1 != 0) = false:=bne_eq_false_iff_eq.mpr c13;clear c13;replace H:=Option.bind_eq_some_iff.mp H;obtain ⟨t223,A140,H⟩:=H;replace H:(if t223 = true then (some ((l0_3.length:Int) == 0)) else (some false)) = some r:=H;have A14:=Aside0.mk A140;clear A140
    by_cases c15:t223 = true
    ·subst c15
     have H1:(some ((l0_3.length:Int) == 0)) = some r:=by rw [if_pos rfl] at H;exact H
     clear H;have H:=H1;clear H1;obtain rfl:=Option.some.inj H
     go_enter Try.func36,Try.ntmps36
     go_wp2_with (first|((with_reducible refine gate_dst (N:=1) rfl ?_);(try (refine gate_guard (by rfl) ?_;dsimp only));refine box_event ?hg (N:=1) ?hd (cs:=#[.int .i64 a0_0,.int .i64 a0_1,.string a0_2,.slice A0_3 l0_3.length c0_3]) (t:=25) ?hr ?_;(case hd=>rfl);(case hg=>rfl);(case hr=>first|(go_simp;done)|(go_simp;rfl));intro gb221 hg w16 hbox hb;have n_:=ai (bq HB hb) <| ai (Aside0.mk (hbox)) <| ai (bz hg HB) <| bz hg HB;clear HB;obtain ⟨HB,BK221,GW221,GE221⟩:=n_;clear hb hbox hg;obtain ⟨h17_0,h17_1,h17_2,h17_3⟩:=kb4 BK221.out;obtain ⟨z17_0,z17_1,z17_2,z17_3⟩:=kz4 BK221.out)|(go_at_call 38;(with_reducible refine (impl_AtomOk.calls k a0_2 true _ A14.out).mono ?_);rintro e w' ⟨rfl,⟨nd,rfl⟩⟩))
     go_ret
     exact ⟨cl,bl HB.out⟩
    ·replace c15:=Bool.eq_false_iff.mpr c15
     subst c15;have H1:(some false) = some r:=by rw [if_neg (show ¬ (false = true) by decide)] at H;exact H
     clear H;have H:=H1;clear H1;obtain rfl:=Option.some.inj H
     go_enter Try.func36,Try.ntmps36
     go_wp2_with (first|((with_reducible refine gate_dst (N:=1) rfl ?_);(try (refine gate_guard (by rfl) ?_;dsimp only));refine box_event ?hg (N:=1) ?hd (cs:=#[.int .i64 a0_0,.int .i64 a0_1,.string a0_2,.slice A0_3 l0_3.length c0_3]) (t:=25) ?hr ?_;(case hd=>rfl);(case hg=>rfl);(case hr=>first|(go_simp;done)|(go_simp;rfl));intro gb221 hg w18 hbox hb;have n_:=ai (bq HB hb) <| ai (Aside0.mk (hbox)) <| ai (bz hg HB) <| bz hg HB;clear HB;obtain ⟨HB,BK221,GW221,GE221⟩:=n_;clear hb hbox hg;obtain ⟨h19_0,h19_1,h19_2,h19_3⟩:=kb4 BK221.out;obtain ⟨z19_0,z19_1,z19_2,z19_3⟩:=kz4 BK221.out)|(go_at_call 38;(with_reducible refine (impl_AtomOk.calls k a0_2 false _ A14.out).mono ?_);rintro e w' ⟨rfl,⟨nd,rfl⟩⟩))
     go_ret
     exact ⟨cl,bl HB.out⟩
   ·rw [if_neg c13] at H
    have c13b0:(a0_1 == 0) = false:=beq_eq_false_iff_ne.mpr c13;have c13b1:(a0_1 != 0) = true:=bne_iff_ne.mpr c13;obtain rfl:=Option.some.inj H
    go_enter Try.func36,Try.ntmps36
    go_wp2_with (first|((with_reducible refine gate_dst (N:=1) rfl ?_);(try (refine gate_guard (by rfl) ?_;dsimp only));refine box_event ?hg (N:=1) ?hd (cs:=#[.int .i64 a0_0,.int .i64 a0_1,.string a0_2,.slice A0_3 l0_3.length c0_3]) (t:=25) ?hr ?_;(case hd=>rfl);(case hg=>rfl);(case hr=>first|(go_simp;done)|(go_simp;rfl));intro gb221 hg w20 hbox hb;have n_:=ai (bq HB hb) <| ai (Aside0.mk (hbox)) <| ai (bz hg HB) <| bz hg HB;clear HB;obtain ⟨HB,BK221,GW221,GE221⟩:=n_;clear hb hbox hg;obtain ⟨h21_0,h21_1,h21_2,h21_3⟩:=kb4 BK221.out;obtain ⟨z21_0,z21_1,z21_2,z21_3⟩:=kz4 BK221.out))
    go_ret
    exact ⟨cl,bl HB.out⟩
  ·rw [if_neg c12] at H
   have c12b0:(a0_0 == 2) = false:=beq_eq_false_iff_ne.mpr c12;have c12b1:(a0_0 != 2) = true:=bne_iff_ne.mpr c12
   by_cases c22:a0_0 = 3
   ·rw [if_pos c22] at H
    have c22b0:(a0_0 == 3) = true:=beq_iff_eq.mpr c22;have c22b1:(a0_0 != 3) = false:=bne_eq_false_iff_eq.mpr c22;clear c22;replace H:=Option.bind_eq_some_iff.mp H;obtain ⟨t224,A230,H⟩:=H;replace H:(if t224 = true then (if a0_2.toList = ([]:List UInt8) then (some ((l0_3.length:Int) == 0)) else (some false)) else (some false)) = some r:=H;have A23:=Aside0.mk A230;clear A230
    by_cases c24:t224 = true
    ·subst c24
     have H1:(if a0_2.toList = ([]:List UInt8) then (some ((l0_3.length:Int) == 0)) else (some false)) = some r:=by rw [if_pos rfl] at H;exact H
     clear H;have H:=H1;clear H1
     by_cases c25:a0_2.toList = ([]:List UInt8)
     ·rw [if_pos c25] at H
      have c25b0:(a0_2.toList == ([]:List UInt8)) = true:=beq_iff_eq.mpr c25;have c25b1:(a0_2.toList != ([]:List UInt8)) = false:=bne_eq_false_iff_eq.mpr c25;clear c25;obtain rfl:=Option.some.inj H
      go_enter Try.func36,Try.ntmps36
      go_wp2_with (first|((with_reducible refine gate_dst (N:=1) rfl ?_);(try (refine gate_guard (by rfl) ?_;dsimp only));refine box_event ?hg (N:=1) ?hd (cs:=#[.int .i64 a0_0,.int .i64 a0_1,.string a0_2,.slice A0_3 l0_3.length c0_3]) (t:=25) ?hr ?_;(case hd=>rfl);(case hg=>rfl);(case hr=>first|(go_simp;done)|(go_simp;rfl));intro gb221 hg w26 hbox hb;have n_:=ai (bq HB hb) <| ai (Aside0.mk (hbox)) <| ai (bz hg HB) <| bz hg HB;clear HB;obtain ⟨HB,BK221,GW221,GE221⟩:=n_;clear hb hbox hg;obtain ⟨h27_0,h27_1,h27_2,h27_3⟩:=kb4 BK221.out;obtain ⟨z27_0,z27_1,z27_2,z27_3⟩:=kz4 BK221.out)|((with_reducible refine gate_callee (f:=35) rfl ?_);refine goesL_ (some 41) rfl rfl Try.func35 (by kernel_rfl) rfl #[.int .i64 a0_1,.int .i64 0,.int .i64 1000000] rfl gs ?_;(with_reducible refine (impl_inRange.calls a0_1 0 1000000 true _ A23.out).mono ?_);rintro e w' ⟨rfl,⟨nd,rfl⟩⟩;refine ⟨_,rfl,?_⟩))
      go_ret
      exact ⟨cl,bl HB.out⟩
     ·rw [if_neg c25] at H
      have c25b0:(a0_2.toList == ([]:List UInt8)) = false:=beq_eq_false_iff_ne.mpr c25;have c25b1:(a0_2.toList != ([]:List UInt8)) = true:=bne_iff_ne.mpr c25;obtain rfl:=Option.some.inj H
      go_enter Try.func36,Try.ntmps36
      go_wp2_with (first|((with_reducible refine gate_dst (N:=1) rfl ?_);(try (refine gate_guard (by rfl) ?_;dsimp only));refine box_event ?hg (N:=1) ?hd (cs:=#[.int .i64 a0_0,.int .i64 a0_1,.string a0_2,.slice A0_3 l0_3.length c0_3]) (t:=25) ?hr ?_;(case hd=>rfl);(case hg=>rfl);(case hr=>first|(go_simp;done)|(go_simp;rfl));intro gb221 hg w28 hbox hb;have n_:=ai (bq HB hb) <| ai (Aside0.mk (hbox)) <| ai (bz hg HB) <| bz hg HB;clear HB;obtain ⟨HB,BK221,GW221,GE221⟩:=n_;clear hb hbox hg;obtain ⟨h29_0,h29_1,h29_2,h29_3⟩:=kb4 BK221.out;obtain ⟨z29_0,z29_1,z29_2,z29_3⟩:=kz4 BK221.out)|((with_reducible refine gate_callee (f:=35) rfl ?_);refine goesL_ (some 41) rfl rfl Try.func35 (by kernel_rfl) rfl #[.int .i64 a0_1,.int .i64 0,.int .i64 1000000] rfl gs ?_;(with_reducible refine (impl_inRange.calls a0_1 0 1000000 true _ A23.out).mono ?_);rintro e w' ⟨rfl,⟨nd,rfl⟩⟩;refine ⟨_,rfl,?_⟩))
      go_ret
      exact ⟨cl,bl HB.out⟩
    ·replace c24:=Bool.eq_false_iff.mpr c24
     subst c24;have H1:(some false) = some r:=by rw [if_neg (show ¬ (false = true) by decide)] at H;exact H
     clear H;have H:=H1;clear H1;obtain rfl:=Option.some.inj H
     go_enter Try.func36,Try.ntmps36
     go_wp2_with (first|((with_reducible refine gate_dst (N:=1) rfl ?_);(try (refine gate_guard (by rfl) ?_;dsimp only));refine box_event ?hg (N:=1) ?hd (cs:=#[.int .i64 a0_0,.int .i64 a0_1,.string a0_2,.slice A0_3 l0_3.length c0_3]) (t:=25) ?hr ?_;(case hd=>rfl);(case hg=>rfl);(case hr=>first|(go_simp;done)|(go_simp;rfl));intro gb221 hg w30 hbox hb;have n_:=ai (bq HB hb) <| ai (Aside0.mk (hbox)) <| ai (bz hg HB) <| bz hg HB;clear HB;obtain ⟨HB,BK221,GW221,GE221⟩:=n_;clear hb hbox hg;obtain ⟨h31_0,h31_1,h31_2,h31_3⟩:=kb4 BK221.out;obtain ⟨z31_0,z31_1,z31_2,z31_3⟩:=kz4 BK221.out)|((with_reducible refine gate_callee (f:=35) rfl ?_);refine goesL_ (some 41) rfl rfl Try.func35 (by kernel_rfl) rfl #[.int .i64 a0_1,.int .i64 0,.int .i64 1000000] rfl gs ?_;(with_reducible refine (impl_inRange.calls a0_1 0 1000000 false _ A23.out).mono ?_);rintro e w' ⟨rfl,⟨nd,rfl⟩⟩;refine ⟨_,rfl,?_⟩))
     go_ret
     exact ⟨cl,bl HB.out⟩
   ·rw [if_neg c22] at H
    have c22b0:(a0_0 == 3) = false:=beq_eq_false_iff_ne.mpr c22;have c22b1:(a0_0 != 3) = true:=bne_iff_ne.mpr c22
    by_cases c32:a0_0 = 4
    ·rw [if_pos c32] at H
     have c32b0:(a0_0 == 4) = true:=beq_iff_eq.mpr c32;have c32b1:(a0_0 != 4) = false:=bne_eq_false_iff_eq.mpr c32;clear c32
     by_cases c33:a0_1 = 0
     ·rw [if_pos c33] at H
      have c33b0:(a0_1 == 0) = true:=beq_iff_eq.mpr c33;have c33b1:(a0_1 != 0) = false:=bne_eq_false_iff_eq.mpr c33;clear c33
      by_cases c34:a0_2.toList = ([]:List UInt8)
      ·rw [if_pos c34] at H
       have c34b0:(a0_2.toList == ([]:List UInt8)) = true:=beq_iff_eq.mpr c34;have c34b1:(a0_2.toList != ([]:List UInt8)) = false:=bne_eq_false_iff_eq.mpr c34;clear c34;obtain rfl:=Option.some.inj H
       go_enter Try.func36,Try.ntmps36
       go_wp2_with (first|((with_reducible refine gate_dst (N:=1) rfl ?_);(try (refine gate_guard (by rfl) ?_;dsimp only));refine box_event ?hg (N:=1) ?hd (cs:=#[.int .i64 a0_0,.int .i64 a0_1,.string a0_2,.slice A0_3 l0_3.length c0_3]) (t:=25) ?hr ?_;(case hd=>rfl);(case hg=>rfl);(case hr=>first|(go_simp;done)|(go_simp;rfl));intro gb221 hg w35 hbox hb;have n_:=ai (bq HB hb) <| ai (Aside0.mk (hbox)) <| ai (bz hg HB) <| bz hg HB;clear HB;obtain ⟨HB,BK221,GW221,GE221⟩:=n_;clear hb hbox hg;obtain ⟨h36_0,h36_1,h36_2,h36_3⟩:=kb4 BK221.out;obtain ⟨z36_0,z36_1,z36_2,z36_3⟩:=kz4 BK221.out))
       go_ret
       exact ⟨cl,bl HB.out⟩
      ·rw [if_neg c34] at H
       have c34b0:(a0_2.toList == ([]:List UInt8)) = false:=beq_eq_false_iff_ne.mpr c34;have c34b1:(a0_2.toList != ([]:List UInt8)) = true:=bne_iff_ne.mpr c34;obtain rfl:=Option.some.inj H
       go_enter Try.func36,Try.ntmps36
       go_wp2_with (first|((with_reducible refine gate_dst (N:=1) rfl ?_);(try (refine gate_guard (by rfl) ?_;dsimp only));refine box_event ?hg (N:=1) ?hd (cs:=#[.int .i64 a0_0,.int .i64 a0_1,.string a0_2,.slice A0_3 l0_3.length c0_3]) (t:=25) ?hr ?_;(case hd=>rfl);(case hg=>rfl);(case hr=>first|(go_simp;done)|(go_simp;rfl));intro gb221 hg w37 hbox hb;have n_:=ai (bq HB hb) <| ai (Aside0.mk (hbox)) <| ai (bz hg HB) <| bz hg HB;clear HB;obtain ⟨HB,BK221,GW221,GE221⟩:=n_;clear hb hbox hg;obtain ⟨h38_0,h38_1,h38_2,h38_3⟩:=kb4 BK221.out;obtain ⟨z38_0,z38_1,z38_2,z38_3⟩:=kz4 BK221.out))
       go_ret
       exact ⟨cl,bl HB.out⟩
     ·rw [if_neg c33] at H
      have c33b0:(a0_1 == 0) = false:=beq_eq_false_iff_ne.mpr c33;have c33b1:(a0_1 != 0) = true:=bne_iff_ne.mpr c33;obtain rfl:=Option.some.inj H
      go_enter Try.func36,Try.ntmps36
      go_wp2_with (first|((with_reducible refine gate_dst (N:=1) rfl ?_);(try (refine gate_guard (by rfl) ?_;dsimp only));refine box_event ?hg (N:=1) ?hd (cs:=#[.int .i64 a0_0,.int .i64 a0_1,.string a0_2,.slice A0_3 l0_3.length c0_3]) (t:=25) ?hr ?_;(case hd=>rfl);(case hg=>rfl);(case hr=>first|(go_simp;done)|(go_simp;rfl));intro gb221 hg w39 hbox hb;have n_:=ai (bq HB hb) <| ai (Aside0.mk (hbox)) <| ai (bz hg HB) <| bz hg HB;clear HB;obtain ⟨HB,BK221,GW221,GE221⟩:=n_;clear hb hbox hg;obtain ⟨h40_0,h40_1,h40_2,h40_3⟩:=kb4 BK221.out;obtain ⟨z40_0,z40_1,z40_2,z40_3⟩:=kz4 BK221.out))
      go_ret
      exact ⟨cl,bl HB.out⟩
    ·rw [if_neg c32] at H
     have c32b0:(a0_0 == 4) = false:=beq_eq_false_iff_ne.mpr c32;have c32b1:(a0_0 != 4) = true:=bne_iff_ne.mpr c32
     by_cases c41:a0_0 = 5
     ·rw [if_pos c41] at H
      have c41b0:(a0_0 == 5) = true:=beq_iff_eq.mpr c41;have c41b1:(a0_0 != 5) = false:=bne_eq_false_iff_eq.mpr c41;clear c41
      by_cases c42:a0_1 = 0
      ·rw [if_pos c42] at H
       have c42b0:(a0_1 == 0) = true:=beq_iff_eq.mpr c42;have c42b1:(a0_1 != 0) = false:=bne_eq_false_iff_eq.mpr c42;clear c42
       by_cases c43:a0_2.toList = ([]:List UInt8)
       ·rw [if_pos c43] at H
        have c43b0:(a0_2.toList == ([]:List UInt8)) = true:=beq_iff_eq.mpr c43;have c43b1:(a0_2.toList != ([]:List UInt8)) = false:=bne_eq_false_iff_eq.mpr c43;clear c43;obtain rfl:=Option.some.inj H
        go_enter Try.func36,Try.ntmps36
        go_wp2_with (first|((with_reducible refine gate_dst (N:=1) rfl ?_);(try (refine gate_guard (by rfl) ?_;dsimp only));refine box_event ?hg (N:=1) ?hd (cs:=#[.int .i64 a0_0,.int .i64 a0_1,.string a0_2,.slice A0_3 l0_3.length c0_3]) (t:=25) ?hr ?_;(case hd=>rfl);(case hg=>rfl);(case hr=>first|(go_simp;done)|(go_simp;rfl));intro gb221 hg w44 hbox hb;have n_:=ai (bq HB hb) <| ai (Aside0.mk (hbox)) <| ai (bz hg HB) <| bz hg HB;clear HB;obtain ⟨HB,BK221,GW221,GE221⟩:=n_;clear hb hbox hg;obtain ⟨h45_0,h45_1,h45_2,h45_3⟩:=kb4 BK221.out;obtain ⟨z45_0,z45_1,z45_2,z45_3⟩:=kz4 BK221.out))
        go_ret
        exact ⟨cl,bl HB.out⟩
       ·rw [if_neg c43] at H
        have c43b0:(a0_2.toList == ([]:List UInt8)) = false:=beq_eq_false_iff_ne.mpr c43;have c43b1:(a0_2.toList != ([]:List UInt8)) = true:=bne_iff_ne.mpr c43;obtain rfl:=Option.some.inj H
        go_enter Try.func36,Try.ntmps36
        go_wp2_with (first|((with_reducible refine gate_dst (N:=1) rfl ?_);(try (refine gate_guard (by rfl) ?_;dsimp only));refine box_event ?hg (N:=1) ?hd (cs:=#[.int .i64 a0_0,.int .i64 a0_1,.string a0_2,.slice A0_3 l0_3.length c0_3]) (t:=25) ?hr ?_;(case hd=>rfl);(case hg=>rfl);(case hr=>first|(go_simp;done)|(go_simp;rfl));intro gb221 hg w46 hbox hb;have n_:=ai (bq HB hb) <| ai (Aside0.mk (hbox)) <| ai (bz hg HB) <| bz hg HB;clear HB;obtain ⟨HB,BK221,GW221,GE221⟩:=n_;clear hb hbox hg;obtain ⟨h47_0,h47_1,h47_2,h47_3⟩:=kb4 BK221.out;obtain ⟨z47_0,z47_1,z47_2,z47_3⟩:=kz4 BK221.out))
        go_ret
        exact ⟨cl,bl HB.out⟩
      ·rw [if_neg c42] at H
       have c42b0:(a0_1 == 0) = false:=beq_eq_false_iff_ne.mpr c42;have c42b1:(a0_1 != 0) = true:=bne_iff_ne.mpr c42;obtain rfl:=Option.some.inj H
       go_enter Try.func36,Try.ntmps36
       go_wp2_with (first|((with_reducible refine gate_dst (N:=1) rfl ?_);(try (refine gate_guard (by rfl) ?_;dsimp only));refine box_event ?hg (N:=1) ?hd (cs:=#[.int .i64 a0_0,.int .i64 a0_1,.string a0_2,.slice A0_3 l0_3.length c0_3]) (t:=25) ?hr ?_;(case hd=>rfl);(case hg=>rfl);(case hr=>first|(go_simp;done)|(go_simp;rfl));intro gb221 hg w48 hbox hb;have n_:=ai (bq HB hb) <| ai (Aside0.mk (hbox)) <| ai (bz hg HB) <| bz hg HB;clear HB;obtain ⟨HB,BK221,GW221,GE221⟩:=n_;clear hb hbox hg;obtain ⟨h49_0,h49_1,h49_2,h49_3⟩:=kb4 BK221.out;obtain ⟨z49_0,z49_1,z49_2,z49_3⟩:=kz4 BK221.out))
       go_ret
       exact ⟨cl,bl HB.out⟩
     ·rw [if_neg c41] at H
      have c41b0:(a0_0 == 5) = false:=beq_eq_false_iff_ne.mpr c41;have c41b1:(a0_0 != 5) = true:=bne_iff_ne.mpr c41;obtain rfl:=Option.some.inj H
      go_enter Try.func36,Try.ntmps36
      go_wp2_with (first|((with_reducible refine gate_dst (N:=1) rfl ?_);(try (refine gate_guard (by rfl) ?_;dsimp only));refine box_event ?hg (N:=1) ?hd (cs:=#[.int .i64 a0_0,.int .i64 a0_1,.string a0_2,.slice A0_3 l0_3.length c0_3]) (t:=25) ?hr ?_;(case hd=>rfl);(case hg=>rfl);(case hr=>first|(go_simp;done)|(go_simp;rfl));intro gb221 hg w50 hbox hb;have n_:=ai (bq HB hb) <| ai (Aside0.mk (hbox)) <| ai (bz hg HB) <| bz hg HB;clear HB;obtain ⟨HB,BK221,GW221,GE221⟩:=n_;clear hb hbox hg;obtain ⟨h51_0,h51_1,h51_2,h51_3⟩:=kb4 BK221.out;obtain ⟨z51_0,z51_1,z51_2,z51_3⟩:=kz4 BK221.out))
      go_ret
      exact ⟨cl,bl HB.out⟩

/-! ### impl_Term_measure: function 28 -/
mutual
def impl_Term_measure.j0:Nat → Int → Bool → Int → Int → ByteArray → List (S25) → Option (Int)
 | 0,_,_,_,_,_,_=>none
 | k + 1,x1,x14,x226000,x226001,x226002,x226003=>if x14 = true then (some 301) else (impl_Term_measure.l0 k x1 1 x226003 (x226003.length:Int) 0)
def impl_Term_measure.l0:Nat → Int → Int → List (S25) → Int → Int → Option (Int)
 | 0,_,_,_,_,_=>none
 | k + 1,x1,x5,x16,x17,x18=>if x18 < x17 then (if 0≤x18 then (if x18 < (x16.length:Int) then ((impl_Term_measure.f k ((rd_T25 x16 x18).f0) ((rd_T25 x16 x18).f1) ((rd_T25 x16 x18).f2) ((rd_T25 x16 x18).f3) (wrap64 (x1 + 1))).bind fun t229=>(if (wrap64 (x5 + t229)) > 300 then (some 301) else (impl_Term_measure.l0 k x1 (wrap64 (x5 + t229)) x16 x17 (wrap64 (x18 + 1))))) else (none)) else (none)) else (some x5)
def impl_Term_measure.f:Nat → Int → Int → ByteArray → List (S25) → Int → Option (Int)
 | 0,_,_,_,_,_=>none
 | k + 1,a0_0,a0_1,a0_2,l0_3,a1=>if a1 > 8 then (impl_Term_measure.j0 k a1 true a0_0 a0_1 a0_2 l0_3) else ((impl_Term_plainOk.f k a0_0 a0_1 a0_2 l0_3).bind fun t226=>(impl_Term_measure.j0 k a1 (!t226) a0_0 a0_1 a0_2 l0_3))
end
theorem impl_Term_measure.mono_l:∀ k,(∀ y0 y1 y2 y3 y4,LeO (impl_Term_measure.f k y0 y1 y2 y3 y4) (impl_Term_measure.f (k + 1) y0 y1 y2 y3 y4))∧(∀ y0 y1 y2 y3 y4 y5,LeO (impl_Term_measure.j0 k y0 y1 y2 y3 y4 y5) (impl_Term_measure.j0 (k + 1) y0 y1 y2 y3 y4 y5))∧(∀ y0 y1 y2 y3 y4,LeO (impl_Term_measure.l0 k y0 y1 y2 y3 y4) (impl_Term_measure.l0 (k + 1) y0 y1 y2 y3 y4))
 | 0=>⟨fun _ _ _ _ _ r h=>by simp [impl_Term_measure.f] at h,fun _ _ _ _ _ _ r h=>by simp [impl_Term_measure.j0] at h,fun _ _ _ _ _ r h=>by simp [impl_Term_measure.l0] at h⟩
 | k + 1=>by
  obtain ⟨ih0,ih1,ih2⟩:=impl_Term_measure.mono_l k
  refine ⟨?_,?_,?_⟩
  ·intro y0 y1 y2 y3 y4
   unfold impl_Term_measure.f
   with_reducible repeat' first|apply ih0|apply ih1|apply ih2|apply impl_Term_plainOk.mono|apply LeO.refl|apply LeO.none|apply LeO.ite|refine LeO.bind ?_ (fun _=>?_)
  ·intro y0 y1 y2 y3 y4 y5
   unfold impl_Term_measure.j0
   with_reducible repeat' first|apply ih0|apply ih1|apply ih2|apply impl_Term_plainOk.mono|apply LeO.refl|apply LeO.none|apply LeO.ite|refine LeO.bind ?_ (fun _=>?_)
  ·intro y0 y1 y2 y3 y4
   unfold impl_Term_measure.l0
   with_reducible repeat' first|apply ih0|apply ih1|apply ih2|apply impl_Term_plainOk.mono|apply LeO.refl|apply LeO.none|apply LeO.ite|refine LeO.bind ?_ (fun _=>?_)
theorem impl_Term_measure.mono:∀ a0 a1 a2 a3 a4 k,LeO (impl_Term_measure.f k a0 a1 a2 a3 a4) (impl_Term_measure.f (k + 1) a0 a1 a2 a3 a4):=by
 intro a0 a1 a2 a3 a4 k;obtain ⟨ih0,ih1,ih2⟩:=impl_Term_measure.mono_l k
 exact ih0 a0 a1 a2 a3 a4
set_option maxHeartbeats 8000000 in
set_option maxRecDepth 100000 in
theorem impl_Term_measure.calls (k:Nat):∀ (a0_0:Int) (a0_1:Int) (a0_2:ByteArray) (A0_3:Option Addr) (c0_3:Nat) (l0_3:List (S25)) (a1:Int) (r:Int) (w:World) (hr0_3:Kd.C k25 w A0_3 l0_3.length l0_3) (hc0_3:l0_3.length≤c0_3) (h:impl_Term_measure.f k a0_0 a0_1 a0_2 l0_3 a1 = some r),
  Calls Try.prog 28 #[.agg #[.int .i64 a0_0,.int .i64 a0_1,.string a0_2,.slice A0_3 l0_3.length c0_3],.int .i64 a1] w fun e w'=>e = .returned (.int .i64 r)∧Below w.heap.size w w':=by
 induction k using Nat.strongRecOn with
 | _ k ih =>
 intro a0_0 a0_1 a0_2 A0_3 c0_3 l0_3 a1 r w hr0_3 hc0_3 h
 cases k with
 | zero=>exact absurd h (by simp [impl_Term_measure.f])
 | succ k =>
 simp only [impl_Term_measure.f] at h;have hu25:=Try.underlying25;have HR0_3:=Aside0.mk hr0_3;have HC0_3:=Aside0.mk hc0_3;clear hr0_3 hc0_3;have HB:=Aside0.mk (Below.refl w.heap.size w);have H:(if a1 > 8 then (impl_Term_measure.j0 k a1 true a0_0 a0_1 a0_2 l0_3) else ((impl_Term_plainOk.f k a0_0 a0_1 a0_2 l0_3).bind fun t226=>(impl_Term_measure.j0 k a1 (!t226) a0_0 a0_1 a0_2 l0_3))) = some r:=h;clear h;have HC3:=Aside0.mk H;clear H
 go_enter Try.func28,Try.ntmps28
 go_upto_region 1 with (first|((with_reducible refine gate_dst (N:=2) rfl ?_);refine box_event ?hg (N:=2) ?hd (cs:=#[.int .i64 a0_0,.int .i64 a0_1,.string a0_2,.slice A0_3 l0_3.length c0_3]) (t:=25) ?hr ?_;(case hd=>rfl);(case hg=>rfl);(case hr=>first|(go_simp;done)|(go_simp;rfl));intro gb225 hg w4 hbox hb;have n_:=ai (bq HB hb) <| ai (Aside0.mk (hbox)) <| ai (bz hg HB) <| bz hg HB;clear HB;obtain ⟨HB,BK225,GW225,GE225⟩:=n_;clear hb hbox hg))
 (try simp only [Act.put,List.setIfInBounds_toArray,List.set_cons_zero,List.set_cons_succ])
 go_cut [14] (fun v14 wc=>∃ (kq:Nat) (x14_2:Bool),v14 = .bool x14_2∧Aside0 (impl_Term_measure.j0 kq a1 x14_2 a0_0 a0_1 a0_2 l0_3 = some r)∧Aside0 (kq≤k)∧Aside0 (wc.heap[gb225]? = some (.cells #[.int .i64 a0_0,.int .i64 a0_1,.string a0_2,(.slice A0_3 l0_3.length c0_3)] 25 (0,0)))∧Aside0 (Below w.heap.size w wc))
 case first =>
  have H:=HC3.out;clear HC3
  by_cases c5:a1 > 8
  ·rw [if_pos c5] at H
   have c5b0:decide (8 < a1) = true:=decide_eq_true c5;clear c5
   (first|rw [c5b0]|(simp only [i64_w,i32_w];rw [c5b0])|(simp only [c5b2,Bool.not_true,Bool.not_false])|skip)
   have H':=Aside0.mk H;clear H
   go_wp2
   go_meet
   case rel=>exact ⟨_,(true),(cl2),H',⟨by first|omega|exact Nat.le_refl _⟩,⟨bk BK225.out⟩,⟨bl HB.out⟩⟩
  ·rw [if_neg c5] at H
   have c5b0:decide (8 < a1) = false:=decide_eq_false c5;clear c5
   (first|rw [c5b0]|(simp only [i64_w,i32_w];rw [c5b0])|(simp only [c5b2,Bool.not_true,Bool.not_false])|skip)
   replace H:=Option.bind_eq_some_iff.mp H;obtain ⟨t226,A60,H⟩:=H;replace H:(impl_Term_measure.j0 k a1 (!t226) a0_0 a0_1 a0_2 l0_3) = some r:=H;have A6:=Aside0.mk A60;clear A60;have H':=Aside0.mk H;clear H;obtain ⟨h7_0,h7_1,h7_2,h7_3⟩:=kb4 BK225.out
   go_wp2_with (first|(go_at_call 36;(with_reducible refine (impl_Term_plainOk.calls k a0_0 a0_1 a0_2 _ _ l0_3 t226 _ ?side1 ?side2 A6.out).mono ?_);(case side1=>exact ck (Kd.C_below HR0_3.out HB.out));(case side2=>exact HC0_3.out);rintro e w8 ⟨rfl,hb⟩;have n_:=ai (bw BK225 hb) <| bq HB hb;clear BK225 HB;obtain ⟨BK225,HB⟩:=n_;(try clear hb);(try clear hi)))
   go_meet
   case rel=>exact ⟨_,(!t226),(cl2),H',⟨by first|omega|exact Nat.le_refl _⟩,⟨bk BK225.out⟩,⟨bl HB.out⟩⟩
 case rest =>
  clear HC3;(try clear BK225);(try clear HB);obtain ⟨kq,x14_2,rfl,HA,HJ2,BK225,HB⟩:=hcut
  cases kq with
  | zero=>exact absurd HA.out (by simp [impl_Term_measure.j0])
  | succ kj2 =>
   have H:=HA.out;clear HA;simp only [impl_Term_measure.j0] at H
   by_cases c9:x14_2 = true
   ·subst c9
    have H1:(some 301) = some r:=by rw [if_pos rfl] at H;exact H
    clear H;have H:=H1;clear H1;obtain rfl:=Option.some.inj H
    go_wp2
    go_ret
    exact ⟨cl,bl HB.out⟩
   ·replace c9:=Bool.eq_false_iff.mpr c9
    subst c9;have H1:(impl_Term_measure.l0 kj2 a1 1 l0_3 (l0_3.length:Int) 0) = some r:=by rw [if_neg (show ¬ (false = true) by decide)] at H;exact H
    clear H;have H:=H1;clear H1;have H':=Aside0.mk H;clear H;obtain ⟨h10_0,h10_1,h10_2,h10_3⟩:=kb4 BK225.out
    go_wp2
    go_loopg [5,18] kj2 (fun kq v5 v18 w'=>∃ (x5_2:Int) (x18_2:Int),v5 = .int .i64 x5_2∧v18 = .int .i64 x18_2∧Aside0 (impl_Term_measure.l0 kq a1 x5_2 l0_3 (l0_3.length:Int) x18_2 = some r)∧Aside0 (kq≤kj2)∧Aside0 (w'.heap[gb225]? = some (.cells #[.int .i64 a0_0,.int .i64 a0_1,.string a0_2,(.slice A0_3 l0_3.length c0_3)] 25 (0,0)))∧Aside0 (Below w.heap.size w w'))
    case atStart=>exact ⟨(1),(0),(cl2),(cl2),H',⟨Nat.le_refl _⟩,⟨bk BK225.out⟩,⟨bl HB.out⟩⟩
    case round =>
     clear H';(try clear c9);(try clear h10_0 h10_1 h10_2 h10_3);(try clear p2);(try clear BK225);(try clear HB);obtain ⟨x5_2,x18_2,rfl,rfl,HA,HK2,BK225,HB⟩:=hrel
     cases gk with
     | zero=>exact absurd HA.out (by simp [impl_Term_measure.l0])
     | succ k2 =>
      have H:=HA.out;clear HA;simp only [impl_Term_measure.l0] at H
      by_cases c11:x18_2 < (l0_3.length:Int)
      ·rw [if_pos c11] at H
       have c11b0:decide (x18_2 < (l0_3.length:Int)) = true:=decide_eq_true c11;clear c11
       by_cases c12:0≤x18_2
       ·rw [if_pos c12] at H
        have c12b0:decide (0≤x18_2) = true:=decide_eq_true c12;clear c12
        by_cases c13:x18_2 < (l0_3.length:Int)
        ·rw [if_pos c13] at H
         have c13b0:decide (x18_2 < (l0_3.length:Int)) = true:=decide_eq_true c13;clear c13;replace H:=Option.bind_eq_some_iff.mp H;obtain ⟨t229,A140,H⟩:=H;replace H:(if (wrap64 (x5_2 + t229)) > 300 then (some 301) else (impl_Term_measure.l0 k2 a1 (wrap64 (x5_2 + t229)) l0_3 (l0_3.length:Int) (wrap64 (x18_2 + 1)))) = some r:=H;have A14:=Aside0.mk A140;clear A140
         by_cases c15:(wrap64 (x5_2 + t229)) > 300
         ·rw [if_pos c15] at H
          have c15b0:decide (300 < (wrap64 (x5_2 + t229))) = true:=decide_eq_true c15;clear c15;obtain rfl:=Option.some.inj H;have p227:0≤(x18_2:Int):=od;have q227:x18_2 < (l0_3.length:Int):=od;obtain ⟨ad227,A227_3,c227_3,e227,hx227_0,hx227_1,hx227_2,hx227_3,hl227_3,hi227_3⟩:=at_T25 HR0_3.out x18_2 p227 q227;cases e227;replace hx227_0:=cb HB hx227_0;replace hx227_1:=cb HB hx227_1;replace hx227_2:=cb HB hx227_2;replace hx227_3:=cb HB hx227_3;have HR227_3:=Aside0.mk hi227_3;have HC227_3:=Aside0.mk hl227_3;clear hi227_3 hl227_3;replace p227:=eq_true p227;replace q227:=eq_true q227
          go_wp2_with (first|((with_reducible refine gate_dst (N:=7) rfl ?_);refine box_event ?hg (N:=7) ?hd (cs:=#[.int .i64 0,.int .i64 0,.string (⟨#[]⟩:ByteArray),.slice none 0 0]) (t:=25) ?hr ?_;(case hd=>rfl);(case hg=>rfl);(case hr=>first|(go_simp;done)|(go_simp;rfl));intro gb228 hg w16 hbox hb;have n_:=ai (bw BK225 hb) <| ai (bq HB hb) <| ai (Aside0.mk (hbox)) <| ai (bz hg HB) <| ai (bz hg HB) <| ai (nl hg BK225) <| ng hg BK225;clear BK225 HB;obtain ⟨BK225,HB,BK228,GW228,GE228,NB225_228,NB228_225⟩:=n_;clear hb hbox hg;have:=NB228_225.out;have:=NB225_228.out;obtain ⟨h18_0,h18_1,h18_2,h18_3⟩:=kb4 BK228.out;obtain ⟨z18_0,z18_1,z18_2,z18_3⟩:=kz4 BK228.out)|((with_reducible refine gate_callee (f:=28) rfl ?_);refine goesL_ (some 26) rfl rfl Try.func28 (by kernel_rfl) rfl #[.agg #[.int .i64 ((rd_T25 l0_3 x18_2).f0),.int .i64 ((rd_T25 l0_3 x18_2).f1),.string ((rd_T25 l0_3 x18_2).f2),.slice A227_3 ((rd_T25 l0_3 x18_2).f3).length c227_3],.int .i64 (wrap64 (a1 + 1))] rfl gs ?_;(with_reducible refine (ih k2 (by have:=HJ2.out;have:=HK2.out;omega) ((rd_T25 l0_3 x18_2).f0) ((rd_T25 l0_3 x18_2).f1) ((rd_T25 l0_3 x18_2).f2) _ _ ((rd_T25 l0_3 x18_2).f3) (wrap64 (a1 + 1)) t229 _ ?side1 ?side2 A14.out).mono ?_);(case side1=>exact Kd.C_below HR227_3.out (bl HB.out));(case side2=>exact HC227_3.out);rintro e w19 ⟨rfl,hb⟩;refine ⟨_,rfl,?_⟩;have n_:=ai (bwm BK225 hb) <| ai (Aside0.mk (blk_below (g:=gb228) (o:=.cells #[.int .i64 ((rd_T25 l0_3 x18_2).f0),.int .i64 ((rd_T25 l0_3 x18_2).f1),.string ((rd_T25 l0_3 x18_2).f2),.slice A227_3 ((rd_T25 l0_3 x18_2).f3).length c227_3] 25 (0,0)) (bmp BK228.out) hb)) <| bq HB hb;clear BK225 BK228 HB;obtain ⟨BK225,BK228,HB⟩:=n_;(try clear hb);(try clear hi)))
          go_ret
          exact ⟨cl,bl HB.out⟩
         ·rw [if_neg c15] at H
          have c15b0:decide (300 < (wrap64 (x5_2 + t229))) = false:=decide_eq_false c15;clear c15;have H':=Aside0.mk H;clear H;have p227:0≤(x18_2:Int):=od;have q227:x18_2 < (l0_3.length:Int):=od;obtain ⟨ad227,A227_3,c227_3,e227,hx227_0,hx227_1,hx227_2,hx227_3,hl227_3,hi227_3⟩:=at_T25 HR0_3.out x18_2 p227 q227;cases e227;replace hx227_0:=cb HB hx227_0;replace hx227_1:=cb HB hx227_1;replace hx227_2:=cb HB hx227_2;replace hx227_3:=cb HB hx227_3;have HR227_3:=Aside0.mk hi227_3;have HC227_3:=Aside0.mk hl227_3;clear hi227_3 hl227_3;replace p227:=eq_true p227;replace q227:=eq_true q227
          go_wp2_with (first|((with_reducible refine gate_dst (N:=7) rfl ?_);refine box_event ?hg (N:=7) ?hd (cs:=#[.int .i64 0,.int .i64 0,.string (⟨#[]⟩:ByteArray),.slice none 0 0]) (t:=25) ?hr ?_;(case hd=>rfl);(case hg=>rfl);(case hr=>first|(go_simp;done)|(go_simp;rfl));intro gb228 hg w20 hbox hb;have n_:=ai (bw BK225 hb) <| ai (bq HB hb) <| ai (Aside0.mk (hbox)) <| ai (bz hg HB) <| ai (bz hg HB) <| ai (nl hg BK225) <| ng hg BK225;clear BK225 HB;obtain ⟨BK225,HB,BK228,GW228,GE228,NB225_228,NB228_225⟩:=n_;clear hb hbox hg;have:=NB228_225.out;have:=NB225_228.out;obtain ⟨h22_0,h22_1,h22_2,h22_3⟩:=kb4 BK228.out;obtain ⟨z22_0,z22_1,z22_2,z22_3⟩:=kz4 BK228.out)|((with_reducible refine gate_callee (f:=28) rfl ?_);refine goesL_ (some 26) rfl rfl Try.func28 (by kernel_rfl) rfl #[.agg #[.int .i64 ((rd_T25 l0_3 x18_2).f0),.int .i64 ((rd_T25 l0_3 x18_2).f1),.string ((rd_T25 l0_3 x18_2).f2),.slice A227_3 ((rd_T25 l0_3 x18_2).f3).length c227_3],.int .i64 (wrap64 (a1 + 1))] rfl gs ?_;(with_reducible refine (ih k2 (by have:=HJ2.out;have:=HK2.out;omega) ((rd_T25 l0_3 x18_2).f0) ((rd_T25 l0_3 x18_2).f1) ((rd_T25 l0_3 x18_2).f2) _ _ ((rd_T25 l0_3 x18_2).f3) (wrap64 (a1 + 1)) t229 _ ?side1 ?side2 A14.out).mono ?_);(case side1=>exact Kd.C_below HR227_3.out (bl HB.out));(case side2=>exact HC227_3.out);rintro e w23 ⟨rfl,hb⟩;refine ⟨_,rfl,?_⟩;have n_:=ai (bwm BK225 hb) <| ai (Aside0.mk (blk_below (g:=gb228) (o:=.cells #[.int .i64 ((rd_T25 l0_3 x18_2).f0),.int .i64 ((rd_T25 l0_3 x18_2).f1),.string ((rd_T25 l0_3 x18_2).f2),.slice A227_3 ((rd_T25 l0_3 x18_2).f3).length c227_3] 25 (0,0)) (bmp BK228.out) hb)) <| bq HB hb;clear BK225 BK228 HB;obtain ⟨BK225,BK228,HB⟩:=n_;(try clear hb);(try clear hi)))
          go_roundg k2
          case measure=>have:=HJ2.out;have:=HK2.out;omega
          case rel=>exact ⟨(wrap64 (x5_2 + t229)),(wrap64 (x18_2 + 1)),(cl2),(cl2),H',⟨by have:=HJ2.out;have:=HK2.out;omega⟩,⟨bk BK225.out⟩,⟨bl HB.out⟩⟩
        ·rw [if_neg c13] at H
         exact absurd H (by simp)
       ·rw [if_neg c12] at H
        exact absurd H (by simp)
      ·rw [if_neg c11] at H
       have c11b0:decide (x18_2 < (l0_3.length:Int)) = false:=decide_eq_false c11;clear c11;obtain rfl:=Option.some.inj H
       go_wp2
       go_ret
       exact ⟨cl,bl HB.out⟩

/-! ### impl_TermOk: function 15 -/
def impl_TermOk.f (k:Nat) (a0_0:Int) (a0_1:Int) (a0_2:ByteArray) (l0_3:List (S25)):Option (Bool):=(impl_Term_measure.f k a0_0 a0_1 a0_2 l0_3 1).bind fun t231=>(some (decide (t231≤300)))
theorem impl_TermOk.mono:∀ a0 a1 a2 a3 k,LeO (impl_TermOk.f k a0 a1 a2 a3) (impl_TermOk.f (k + 1) a0 a1 a2 a3):=by
 intro a0 a1 a2 a3 k
 unfold impl_TermOk.f
 with_reducible repeat' first|apply impl_Term_measure.mono|apply LeO.refl|apply LeO.none|apply LeO.ite|refine LeO.bind ?_ (fun _=>?_)
set_option maxHeartbeats 8000000 in
set_option maxRecDepth 100000 in
theorem impl_TermOk.calls (k:Nat) (a0_0:Int) (a0_1:Int) (a0_2:ByteArray) (A0_3:Option Addr) (c0_3:Nat) (l0_3:List (S25)) (r:Bool) (w:World) (hr0_3:Kd.C k25 w A0_3 l0_3.length l0_3) (hc0_3:l0_3.length≤c0_3) (h:impl_TermOk.f k a0_0 a0_1 a0_2 l0_3 = some r) :
  Calls Try.prog 15 #[.agg #[.int .i64 a0_0,.int .i64 a0_1,.string a0_2,.slice A0_3 l0_3.length c0_3]] w fun e w'=>e = .returned (.bool r)∧Below w.heap.size w w':=by
 have hu25:=Try.underlying25;have HR0_3:=Aside0.mk hr0_3;have HC0_3:=Aside0.mk hc0_3;clear hr0_3 hc0_3;have HB:=Aside0.mk (Below.refl w.heap.size w);have H:((impl_Term_measure.f k a0_0 a0_1 a0_2 l0_3 1).bind fun t231=>(some (decide (t231≤300)))) = some r:=h;clear h;replace H:=Option.bind_eq_some_iff.mp H;obtain ⟨t231,A20,H⟩:=H;replace H:(some (decide (t231≤300))) = some r:=H;have A2:=Aside0.mk A20;clear A20;obtain rfl:=Option.some.inj H
 go_enter Try.func15,Try.ntmps15
 go_wp2_with (first|((with_reducible refine gate_dst (N:=1) rfl ?_);refine box_event ?hg (N:=1) ?hd (cs:=#[.int .i64 a0_0,.int .i64 a0_1,.string a0_2,.slice A0_3 l0_3.length c0_3]) (t:=25) ?hr ?_;(case hd=>rfl);(case hg=>rfl);(case hr=>first|(go_simp;done)|(go_simp;rfl));intro gb230 hg w3 hbox hb;have n_:=ai (bq HB hb) <| ai (Aside0.mk (hbox)) <| ai (bz hg HB) <| bz hg HB;clear HB;obtain ⟨HB,BK230,GW230,GE230⟩:=n_;clear hb hbox hg;obtain ⟨h4_0,h4_1,h4_2,h4_3⟩:=kb4 BK230.out;obtain ⟨z4_0,z4_1,z4_2,z4_3⟩:=kz4 BK230.out)|((with_reducible refine gate_callee (f:=28) rfl ?_);refine goesL_ (some 4) rfl rfl Try.func28 (by kernel_rfl) rfl #[.agg #[.int .i64 a0_0,.int .i64 a0_1,.string a0_2,.slice A0_3 l0_3.length c0_3],.int .i64 1] rfl gs ?_;(with_reducible refine (impl_Term_measure.calls k a0_0 a0_1 a0_2 _ _ l0_3 1 t231 _ ?side1 ?side2 A2.out).mono ?_);(case side1=>exact ck (Kd.C_below HR0_3.out HB.out));(case side2=>exact HC0_3.out);rintro e w5 ⟨rfl,hb⟩;refine ⟨_,rfl,?_⟩;have n_:=ai (bw BK230 hb) <| bq HB hb;clear BK230 HB;obtain ⟨BK230,HB⟩:=n_;(try clear hb);(try clear hi)))
 go_ret
 exact ⟨cl,bl HB.out⟩

/-! ### bytes_Equal: function 16 -/
def bytes_Equal.f (l0:List Int) (l1:List Int):Option (Bool):=some ((strOfNums l0).toList == (strOfNums l1).toList)
set_option maxHeartbeats 8000000 in
set_option maxRecDepth 100000 in
theorem bytes_Equal.calls (A0:Option Addr) (c0:Nat) (l0:List Int) (A1:Option Addr) (c1:Nat) (l1:List Int) (r:Bool) (w:World) (hr0:Kd.C (Kd.int .u8) w A0 l0.length l0) (hc0:l0.length≤c0) (hr1:Kd.C (Kd.int .u8) w A1 l1.length l1) (hc1:l1.length≤c1) (h:bytes_Equal.f l0 l1 = some r) :
  Calls Try.prog 16 #[.slice A0 l0.length c0,.slice A1 l1.length c1] w fun e w'=>e = .returned (.bool r)∧Drawn0 w w':=by
 have HR0:=Aside0.mk hr0;have HC0:=Aside0.mk hc0;clear hr0 hc0;have HR1:=Aside0.mk hr1;have HC1:=Aside0.mk hc1;clear hr1 hc1;have H:(some ((strOfNums l0).toList == (strOfNums l1).toList)) = some r:=h;clear h;obtain rfl:=Option.some.inj H;have hcv3:=Kd.C_string (P:=Try.prog) (A:=A0) (c:=c0) Try.underlying22 Try.underlying5 Try.underlying9 HR0.out;have hcv4:=fun m_:Nat=>Kd.C_string (P:=Try.prog) (A:=A0) (c:=c0) Try.underlying22 Try.underlying5 Try.underlying9 (Kd.C_drewN HR0.out m_)
 have hcv5:=Kd.C_string (P:=Try.prog) (A:=A1) (c:=c1) Try.underlying22 Try.underlying5 Try.underlying9 HR1.out;have hcv6:=fun m_:Nat=>Kd.C_string (P:=Try.prog) (A:=A1) (c:=c1) Try.underlying22 Try.underlying5 Try.underlying9 (Kd.C_drewN HR1.out m_)
 go_enter Try.func16,Try.ntmps16
 go_wp2
 go_ret
 exact ⟨cl2,by repeat (first|exact Drawn0.refl _|apply Drawn0.step)⟩

end Go.Proofs.Ytefkjmkmojmllaa.QFnExactGetTerm
