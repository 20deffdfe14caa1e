-- Written by a program of this workplace (print2.py) for this claim, over the print's words.
import Derived.Test.YtefkjmkmojmllaaQFnExactGetTermx0
import Derived.Test.YtefkjmkmojmllaaQFnExactGetTermx1
import Derived.Test.YtefkjmkmojmllaaQFnExactGetTermx2
namespace Go.Proofs.Ytefkjmkmojmllaa.QFnExactGetTerm
open Go.RowKit Go.Proofs.YtefkjmkmojmllaaW.PrintWords Go.Proofs.YtefkjmkmojmllaaW.PrintLast Go.Proofs.YtefkjmkmojmllaaW.PrintMore
attribute [local go_sem] max2_int min2_int max_two min_two max_three min_three max_four min_four   -- for this text's walks alone
set_option linter.unusedVariables false
set_option linter.unusedSimpArgs false

/-! ### spec_AtomOk: function 37 -/
def spec_AtomOk.l0:Nat → ByteArray → Int → Option (Bool)
 | 0,_,_=>none
 | k + 1,x0,x3=>if x3 < (x0.size:Int) then (if 0≤x3 then ((spec_l1In.f (wrap64 (bt x0 x3)) 97 122).bind fun t141=>(if t141 = true then (spec_AtomOk.l0 k x0 (wrap64 (x3 + 1))) else (if x3 = 0 then (some false) else ((spec_l1In.f (wrap64 (bt x0 x3)) 48 57).bind fun t142=>(if t142 = true then (spec_AtomOk.l0 k x0 (wrap64 (x3 + 1))) else (if (wrap64 (bt x0 x3)) = 95 then (spec_AtomOk.l0 k x0 (wrap64 (x3 + 1))) else (some false))))))) else (none)) else ((spec_l1In.f (x0.size:Int) 1 20).bind fun t140=>(some t140))
def spec_AtomOk.f (k:Nat) (a0:ByteArray):Option (Bool):=spec_AtomOk.l0 k a0 0
theorem spec_AtomOk.mono_l:∀ k,(∀ y0 y1,LeO (spec_AtomOk.l0 k y0 y1) (spec_AtomOk.l0 (k + 1) y0 y1))
 | 0=>fun _ _ r h=>by simp [spec_AtomOk.l0] at h
 | k + 1=>by
  have ih0:=spec_AtomOk.mono_l k
  ·intro y0 y1
   unfold spec_AtomOk.l0
   with_reducible repeat' first|apply ih0|apply LeO.refl|apply LeO.none|apply LeO.ite|refine LeO.bind ?_ (fun _=>?_)
theorem spec_AtomOk.mono:∀ a0 k,LeO (spec_AtomOk.f k a0) (spec_AtomOk.f (k + 1) a0):=by
 intro a0 k;have ih0:=spec_AtomOk.mono_l k
 unfold spec_AtomOk.f
 with_reducible repeat' first|apply ih0|apply LeO.refl|apply LeO.none|apply LeO.ite|refine LeO.bind ?_ (fun _=>?_)
set_option maxHeartbeats 8000000 in
set_option maxRecDepth 100000 in
theorem spec_AtomOk.calls (k:Nat) (a0:ByteArray) (r:Bool) (w:World) (h:spec_AtomOk.f k a0 = some r) :
  Calls Try.prog 37 #[.string a0] w fun e w'=>e = .returned (.bool r)∧Drawn0 w w':=by
 have H:(spec_AtomOk.l0 k a0 0) = some r:=h;clear h;have H':=Aside0.mk H;clear H
 go_enter Try.func37,Try.ntmps37
 go_wp2
 go_loopg [3] k (fun kq v3 w'=>∃ (x3_1:Int),v3 = .int .i64 x3_1∧Aside0 (spec_AtomOk.l0 kq a0 x3_1 = some r)∧Aside0 (kq≤k)∧Drawn0 w w')
 case atStart=>exact ⟨(0),(cl2),H',⟨Nat.le_refl _⟩,by repeat (first|exact Drawn0.refl _|apply Drawn0.step)⟩
 case round =>
  clear H';obtain ⟨x3_1,rfl,HA,HK1,⟨m1,rfl⟩⟩:=hrel
  cases gk with
  | zero=>exact absurd HA.out (by simp [spec_AtomOk.l0])
  | succ k1 =>
   have H:=HA.out;clear HA;simp only [spec_AtomOk.l0] at H
   by_cases c2:x3_1 < (a0.size:Int)
   ·rw [if_pos c2] at H
    have c2b0:decide (x3_1 < (a0.size:Int)) = true:=decide_eq_true c2;clear c2
    by_cases c3:0≤x3_1
    ·rw [if_pos c3] at H
     have c3b0:decide (0≤x3_1) = true:=decide_eq_true c3;clear c3;replace H:=Option.bind_eq_some_iff.mp H;obtain ⟨t141,A50,H⟩:=H;replace H:(if t141 = true then (spec_AtomOk.l0 k1 a0 (wrap64 (x3_1 + 1))) else (if x3_1 = 0 then (some false) else ((spec_l1In.f (wrap64 (bt a0 x3_1)) 48 57).bind fun t142=>(if t142 = true then (spec_AtomOk.l0 k1 a0 (wrap64 (x3_1 + 1))) else (if (wrap64 (bt a0 x3_1)) = 95 then (spec_AtomOk.l0 k1 a0 (wrap64 (x3_1 + 1))) else (some false)))))) = some r:=H;have A5:=Aside0.mk A50;clear A50
     by_cases c6:t141 = true
     ·subst c6
      have H1:(spec_AtomOk.l0 k1 a0 (wrap64 (x3_1 + 1))) = some r:=by rw [if_pos rfl] at H;exact H
      clear H;have H:=H1;clear H1;have H':=Aside0.mk H;clear H;have p4:0≤(x3_1:Int):=od;have q4:x3_1 < (a0.size:Int):=od;have hx4:=bt_at a0 x3_1;replace p4:=eq_true p4;replace q4:=eq_true q4
      go_wp2_with (first|((with_reducible refine gate_callee (f:=23) rfl ?_);refine goesL_ (some 17) rfl rfl Try.func23 (by kernel_rfl) rfl #[.int .i64 (wrap64 (bt a0 x3_1)),.int .i64 97,.int .i64 122] rfl gs ?_;(with_reducible refine (spec_l1In.calls (wrap64 (bt a0 x3_1)) 97 122 true _ A5.out).mono ?_);rintro e w' ⟨rfl,⟨nd,rfl⟩⟩;refine ⟨_,rfl,?_⟩))
      go_roundg k1
      case measure=>have:=HK1.out;omega
      case rel=>exact ⟨(wrap64 (x3_1 + 1)),(cl2),H',⟨by have:=HK1.out;omega⟩,by repeat (first|exact Drawn0.refl _|apply Drawn0.step)⟩
     ·replace c6:=Bool.eq_false_iff.mpr c6
      subst c6;have H1:(if x3_1 = 0 then (some false) else ((spec_l1In.f (wrap64 (bt a0 x3_1)) 48 57).bind fun t142=>(if t142 = true then (spec_AtomOk.l0 k1 a0 (wrap64 (x3_1 + 1))) else (if (wrap64 (bt a0 x3_1)) = 95 then (spec_AtomOk.l0 k1 a0 (wrap64 (x3_1 + 1))) else (some false))))) = some r:=by rw [if_neg (show ¬ (false = true) by decide)] at H;exact H
      clear H;have H:=H1;clear H1
      by_cases c7:x3_1 = 0
      ·rw [if_pos c7] at H
       have c7b0:(x3_1 == 0) = true:=beq_iff_eq.mpr c7;have c7b1:(x3_1 != 0) = false:=bne_eq_false_iff_eq.mpr c7;clear c7;obtain rfl:=Option.some.inj H;have p4:0≤(x3_1:Int):=od;have q4:x3_1 < (a0.size:Int):=od;have hx4:=bt_at a0 x3_1;replace p4:=eq_true p4;replace q4:=eq_true q4
       go_wp2_with (first|((with_reducible refine gate_callee (f:=23) rfl ?_);refine goesL_ (some 17) rfl rfl Try.func23 (by kernel_rfl) rfl #[.int .i64 (wrap64 (bt a0 x3_1)),.int .i64 97,.int .i64 122] rfl gs ?_;(with_reducible refine (spec_l1In.calls (wrap64 (bt a0 x3_1)) 97 122 false _ A5.out).mono ?_);rintro e w' ⟨rfl,⟨nd,rfl⟩⟩;refine ⟨_,rfl,?_⟩))
       go_ret
       exact ⟨cl2,by repeat (first|exact Drawn0.refl _|apply Drawn0.step)⟩
      ·rw [if_neg c7] at H
       have c7b0:(x3_1 == 0) = false:=beq_eq_false_iff_ne.mpr c7;have c7b1:(x3_1 != 0) = true:=bne_iff_ne.mpr c7;replace H:=Option.bind_eq_some_iff.mp H;obtain ⟨t142,A80,H⟩:=H;replace H:(if t142 = true then (spec_AtomOk.l0 k1 a0 (wrap64 (x3_1 + 1))) else (if (wrap64 (bt a0 x3_1)) = 95 then (spec_AtomOk.l0 k1 a0 (wrap64 (x3_1 + 1))) else (some false))) = some r:=H;have A8:=Aside0.mk A80;clear A80
       by_cases c9:t142 = true
       ·subst c9
        have H1:(spec_AtomOk.l0 k1 a0 (wrap64 (x3_1 + 1))) = some r:=by rw [if_pos rfl] at H;exact H
        clear H;have H:=H1;clear H1;have H':=Aside0.mk H;clear H;have p4:0≤(x3_1:Int):=od;have q4:x3_1 < (a0.size:Int):=od;have hx4:=bt_at a0 x3_1;replace p4:=eq_true p4;replace q4:=eq_true q4
        go_wp2_with (first|((with_reducible refine gate_callee (f:=23) rfl ?_);refine goesL_ (some 17) rfl rfl Try.func23 (by kernel_rfl) rfl #[.int .i64 (wrap64 (bt a0 x3_1)),.int .i64 97,.int .i64 122] rfl gs ?_;(with_reducible refine (spec_l1In.calls (wrap64 (bt a0 x3_1)) 97 122 false _ A5.out).mono ?_);rintro e w' ⟨rfl,⟨nd,rfl⟩⟩;refine ⟨_,rfl,?_⟩)|(go_at_call 23;(with_reducible refine (spec_l1In.calls (wrap64 (bt a0 x3_1)) 48 57 true _ A8.out).mono ?_);rintro e w' ⟨rfl,⟨nd,rfl⟩⟩))
        go_roundg k1
        case measure=>have:=HK1.out;omega
        case rel=>exact ⟨(wrap64 (x3_1 + 1)),(cl2),H',⟨by have:=HK1.out;omega⟩,by repeat (first|exact Drawn0.refl _|apply Drawn0.step)⟩
       ·replace c9:=Bool.eq_false_iff.mpr c9
        subst c9;have H1:(if (wrap64 (bt a0 x3_1)) = 95 then (spec_AtomOk.l0 k1 a0 (wrap64 (x3_1 + 1))) else (some false)) = some r:=by rw [if_neg (show ¬ (false = true) by decide)] at H;exact H
        clear H;have H:=H1;clear H1
        by_cases c10:(wrap64 (bt a0 x3_1)) = 95
        ·rw [if_pos c10] at H
         have c10b0:((wrap64 (bt a0 x3_1)) == 95) = true:=beq_iff_eq.mpr c10;have c10b1:((wrap64 (bt a0 x3_1)) != 95) = false:=bne_eq_false_iff_eq.mpr c10;clear c10;have H':=Aside0.mk H;clear H;have p4:0≤(x3_1:Int):=od;have q4:x3_1 < (a0.size:Int):=od;have hx4:=bt_at a0 x3_1;replace p4:=eq_true p4;replace q4:=eq_true q4
         go_wp2_with (first|((with_reducible refine gate_callee (f:=23) rfl ?_);refine goesL_ (some 17) rfl rfl Try.func23 (by kernel_rfl) rfl #[.int .i64 (wrap64 (bt a0 x3_1)),.int .i64 97,.int .i64 122] rfl gs ?_;(with_reducible refine (spec_l1In.calls (wrap64 (bt a0 x3_1)) 97 122 false _ A5.out).mono ?_);rintro e w' ⟨rfl,⟨nd,rfl⟩⟩;refine ⟨_,rfl,?_⟩)|(go_at_call 23;(with_reducible refine (spec_l1In.calls (wrap64 (bt a0 x3_1)) 48 57 false _ A8.out).mono ?_);rintro e w' ⟨rfl,⟨nd,rfl⟩⟩))
         go_roundg k1
         case measure=>have:=HK1.out;omega
         case rel=>exact ⟨(wrap64 (x3_1 + 1)),(cl2),H',⟨by have:=HK1.out;omega⟩,by repeat (first|exact Drawn0.refl _|apply Drawn0.step)⟩
        ·rw [if_neg c10] at H
         have c10b0:((wrap64 (bt a0 x3_1)) == 95) = false:=beq_eq_false_iff_ne.mpr c10;have c10b1:((wrap64 (bt a0 x3_1)) != 95) = true:=bne_iff_ne.mpr c10;obtain rfl:=Option.some.inj H;have p4:0≤(x3_1:Int):=od;have q4:x3_1 < (a0.size:Int):=od;have hx4:=bt_at a0 x3_1;replace p4:=eq_true p4;replace q4:=eq_true q4
         go_wp2_with (first|((with_reducible refine gate_callee (f:=23) rfl ?_);refine goesL_ (some 17) rfl rfl Try.func23 (by kernel_rfl) rfl #[.int .i64 (wrap64 (bt a0 x3_1)),.int .i64 97,.int .i64 122] rfl gs ?_;(with_reducible refine (spec_l1In.calls (wrap64 (bt a0 x3_1)) 97 122 false _ A5.out).mono ?_);rintro e w' ⟨rfl,⟨nd,rfl⟩⟩;refine ⟨_,rfl,?_⟩)|(go_at_call 23;(with_reducible refine (spec_l1In.calls (wrap64 (bt a0 x3_1)) 48 57 false _ A8.out).mono ?_);rintro e w' ⟨rfl,⟨nd,rfl⟩⟩))
         go_ret
         exact ⟨cl2,by repeat (first|exact Drawn0.refl _|apply Drawn0.step)⟩
    ·rw [if_neg c3] at H
     exact absurd H (by simp)
   ·rw [if_neg c2] at H
    have c2b0:decide (x3_1 < (a0.size:Int)) = false:=decide_eq_false c2;clear c2;replace H:=Option.bind_eq_some_iff.mp H;obtain ⟨t140,A110,H⟩:=H;replace H:(some t140) = some r:=H;have A11:=Aside0.mk A110;clear A110;obtain rfl:=Option.some.inj H
    go_wp2_with (first|((with_reducible refine gate_callee (f:=23) rfl ?_);refine goesL_ (some 35) rfl rfl Try.func23 (by kernel_rfl) rfl #[.int .i64 (a0.size:Int),.int .i64 1,.int .i64 20] rfl gs ?_;(with_reducible refine (spec_l1In.calls (a0.size:Int) 1 20 t140 _ A11.out).mono ?_);rintro e w' ⟨rfl,⟨nd,rfl⟩⟩;refine ⟨_,rfl,?_⟩))
    go_ret
    exact ⟨cl2,by repeat (first|exact Drawn0.refl _|apply Drawn0.step)⟩

/-! ### spec_l2Shape: function 32 -/
def spec_l2Shape.f (k:Nat) (a0_0:Int) (a0_1:Int) (a0_2:ByteArray) (l0_3:List (S25)):Option (Bool):=if a0_0 = 1 then ((spec_l1In.f a0_1 (-1000000000000) 1000000000000).bind fun t144=>(if t144 = true then (if a0_2.toList = ([]:List UInt8) then (some ((l0_3.length:Int) == 0)) else (some false)) else (some false))) else (if a0_0 = 2 then ((spec_AtomOk.f k a0_2).bind fun t145=>(if t145 = true then (if a0_1 = 0 then (some ((l0_3.length:Int) == 0)) else (some false)) else (some false))) else (if a0_0 = 3 then ((spec_l1In.f a0_1 0 1000000).bind fun t146=>(if t146 = true then (if a0_2.toList = ([]:List UInt8) then (some ((l0_3.length:Int) == 0)) else (some false)) else (some false))) else (if a0_0 = 4 then (if a0_1 = 0 then (if a0_2.toList = ([]:List UInt8) then (some (decide ((l0_3.length:Int)≤20))) else (some false)) else (some false)) else (if a0_0 = 5 then (if a0_1 = 0 then (if a0_2.toList = ([]:List UInt8) then (some (decide ((l0_3.length:Int)≤60))) else (some false)) else (some false)) else (some false)))))
theorem spec_l2Shape.mono:∀ a0 a1 a2 a3 k,LeO (spec_l2Shape.f k a0 a1 a2 a3) (spec_l2Shape.f (k + 1) a0 a1 a2 a3):=by
 intro a0 a1 a2 a3 k
 unfold spec_l2Shape.f
 with_reducible repeat' first|apply spec_AtomOk.mono|apply LeO.refl|apply LeO.none|apply LeO.ite|refine LeO.bind ?_ (fun _=>?_)
set_option maxHeartbeats 8000000 in
set_option maxRecDepth 100000 in
theorem spec_l2Shape.calls (k:Nat) (a0_0:Int) (a0_1:Int) (a0_2:ByteArray) (A0_3:Option Addr) (c0_3:Nat) (l0_3:List (S25)) (r:Bool) (w:World) (hr0_3:Kd.C k25 w A0_3 l0_3.length l0_3) (hc0_3:l0_3.length≤c0_3) (h:spec_l2Shape.f k a0_0 a0_1 a0_2 l0_3 = some r) :
  Calls Try.prog 32 #[.agg #[.int .i64 a0_0,.int .i64 a0_1,.string a0_2,.slice A0_3 l0_3.length c0_3]] w fun e w'=>e = .returned (.bool r)∧Below w.heap.size w w':=by
 have hu25:=Try.underlying25;have HR0_3:=Aside0.mk hr0_3;have HC0_3:=Aside0.mk hc0_3;clear hr0_3 hc0_3;have HB:=Aside0.mk (Below.refl w.heap.size w);have H:(if a0_0 = 1 then ((spec_l1In.f a0_1 (-1000000000000) 1000000000000).bind fun t144=>(if t144 = true then (if a0_2.toList = ([]:List UInt8) then (some ((l0_3.length:Int) == 0)) else (some false)) else (some false))) else (if a0_0 = 2 then ((spec_AtomOk.f k a0_2).bind fun t145=>(if t145 = true then (if a0_1 = 0 then (some ((l0_3.length:Int) == 0)) else (some false)) else (some false))) else (if a0_0 = 3 then ((spec_l1In.f a0_1 0 1000000).bind fun t146=>(if t146 = true then (if a0_2.toList = ([]:List UInt8) then (some ((l0_3.length:Int) == 0)) else (some false)) else (some false))) else (if a0_0 = 4 then (if a0_1 = 0 then (if a0_2.toList = ([]:List UInt8) then (some (decide ((l0_3.length:Int)≤20))) else (some false)) else (some false)) else (if a0_0 = 5 then (if a0_1 = 0 then (if a0_2.toList = ([]:List UInt8) then (some (decide ((l0_3.length:Int)≤60))) else (some false)) else (some false)) else (some false)))))) = some r:=h;clear h
 by_cases c2:a0_0 = 1
 ·rw [if_pos c2] at H
  have c2b0:(a0_0 == 1) = true:=beq_iff_eq.mpr c2;have c2b1:(a0_0 != 1) = false:=bne_eq_false_iff_eq.mpr c2;clear c2;replace H:=Option.bind_eq_some_iff.mp H;obtain ⟨t144,A30,H⟩:=H;replace H:(if t144 = true then (if a0_2.toList = ([]:List UInt8) then (some ((l0_3.length:Int) == 0)) else (some false)) else (some false)) = some r:=H;have A3:=Aside0.mk A30;clear A30
  by_cases c4:t144 = true
  ·subst c4
   have H1:(if a0_2.toList = ([]:List UInt8) then (some ((l0_3.length:Int) == 0)) else (some false)) = some r:=by rw [if_pos rfl] at H;exact H
   clear H;have H:=H1;clear H1
   by_cases c5:a0_2.toList = ([]:List UInt8)
   ·rw [if_pos c5] at H
    have c5b0:(a0_2.toList == ([]:List UInt8)) = true:=beq_iff_eq.mpr c5;have c5b1:(a0_2.toList != ([]:List UInt8)) = false:=bne_eq_false_iff_eq.mpr c5;clear c5;obtain rfl:=Option.some.inj H
    go_enter Try.func32,Try.ntmps32
    go_wp2_with (first|((with_reducible refine gate_dst (N:=1) rfl ?_);(try (refine gate_guard (by rfl) ?_;dsimp only));refine box_event ?hg (N:=1) ?hd (cs:=#[.int .i64 a0_0,.int .i64 a0_1,.string a0_2,.slice A0_3 l0_3.length c0_3]) (t:=25) ?hr ?_;(case hd=>rfl);(case hg=>rfl);(case hr=>first|(go_simp;done)|(go_simp;rfl));intro gb143 hg w6 hbox hb;have n_:=ai (bq HB hb) <| ai (Aside0.mk (hbox)) <| ai (bz hg HB) <| bz hg HB;clear HB;obtain ⟨HB,BK143,GW143,GE143⟩:=n_;clear hb hbox hg;obtain ⟨h7_0,h7_1,h7_2,h7_3⟩:=kb4 BK143.out;obtain ⟨z7_0,z7_1,z7_2,z7_3⟩:=kz4 BK143.out)|((with_reducible refine gate_callee (f:=23) rfl ?_);refine goesL_ (some 9) rfl rfl Try.func23 (by kernel_rfl) rfl #[.int .i64 a0_1,.int .i64 (-1000000000000),.int .i64 1000000000000] rfl gs ?_;(with_reducible refine (spec_l1In.calls a0_1 (-1000000000000) 1000000000000 true _ A3.out).mono ?_);rintro e w' ⟨rfl,⟨nd,rfl⟩⟩;refine ⟨_,rfl,?_⟩))
    go_ret
    exact ⟨cl,bl HB.out⟩
   ·rw [if_neg c5] at H
    have c5b0:(a0_2.toList == ([]:List UInt8)) = false:=beq_eq_false_iff_ne.mpr c5;have c5b1:(a0_2.toList != ([]:List UInt8)) = true:=bne_iff_ne.mpr c5;obtain rfl:=Option.some.inj H
    go_enter Try.func32,Try.ntmps32
    go_wp2_with (first|((with_reducible refine gate_dst (N:=1) rfl ?_);(try (refine gate_guard (by rfl) ?_;dsimp only));refine box_event ?hg (N:=1) ?hd (cs:=#[.int .i64 a0_0,.int .i64 a0_1,.string a0_2,.slice A0_3 l0_3.length c0_3]) (t:=25) ?hr ?_;(case hd=>rfl);(case hg=>rfl);(case hr=>first|(go_simp;done)|(go_simp;rfl));intro gb143 hg w8 hbox hb;have n_:=ai (bq HB hb) <| ai (Aside0.mk (hbox)) <| ai (bz hg HB) <| bz hg HB;clear HB;obtain ⟨HB,BK143,GW143,GE143⟩:=n_;clear hb hbox hg;obtain ⟨h9_0,h9_1,h9_2,h9_3⟩:=kb4 BK143.out;obtain ⟨z9_0,z9_1,z9_2,z9_3⟩:=kz4 BK143.out)|((with_reducible refine gate_callee (f:=23) rfl ?_);refine goesL_ (some 9) rfl rfl Try.func23 (by kernel_rfl) rfl #[.int .i64 a0_1,.int .i64 (-1000000000000),.int .i64 1000000000000] rfl gs ?_;(with_reducible refine (spec_l1In.calls a0_1 (-1000000000000) 1000000000000 true _ A3.out).mono ?_);rintro e w' ⟨rfl,⟨nd,rfl⟩⟩;refine ⟨_,rfl,?_⟩))
    go_ret
    exact ⟨cl,bl HB.out⟩
  ·replace c4:=Bool.eq_false_iff.mpr c4
   subst c4;have H1:(some false) = some r:=by rw [if_neg (show ¬ (false = true) by decide)] at H;exact H
   clear H;have H:=H1;clear H1;obtain rfl:=Option.some.inj H
   go_enter Try.func32,Try.ntmps32
   go_wp2_with (first|((with_reducible refine gate_dst (N:=1) rfl ?_);(try (refine gate_guard (by rfl) ?_;dsimp only));refine box_event ?hg (N:=1) ?hd (cs:=#[.int .i64 a0_0,.int .i64 a0_1,.string a0_2,.slice A0_3 l0_3.length c0_3]) (t:=25) ?hr ?_;(case hd=>rfl);(case hg=>rfl);(case hr=>first|(go_simp;done)|(go_simp;rfl));intro gb143 hg w10 hbox hb;have n_:=ai (bq HB hb) <| ai (Aside0.mk (hbox)) <| ai (bz hg HB) <| bz hg HB;clear HB;obtain ⟨HB,BK143,GW143,GE143⟩:=n_;clear hb hbox hg;obtain ⟨h11_0,h11_1,h11_2,h11_3⟩:=kb4 BK143.out;obtain ⟨z11_0,z11_1,z11_2,z11_3⟩:=kz4 BK143.out)|((with_reducible refine gate_callee (f:=23) rfl ?_);refine goesL_ (some 9) rfl rfl Try.func23 (by kernel_rfl) rfl #[.int .i64 a0_1,.int .i64 (-1000000000000),.int .i64 1000000000000] rfl gs ?_;(with_reducible refine (spec_l1In.calls a0_1 (-1000000000000) 1000000000000 false _ A3.out).mono ?_);rintro e w' ⟨rfl,⟨nd,rfl⟩⟩;refine ⟨_,rfl,?_⟩))
   go_ret
   exact ⟨cl,bl HB.out⟩
 ·rw [if_neg c2] at H
  have c2b0:(a0_0 == 1) = false:=beq_eq_false_iff_ne.mpr c2;have c2b1:(a0_0 != 1) = true:=bne_iff_ne.mpr c2
  by_cases c12:a0_0 = 2
  ·rw [if_pos c12] at H
   have c12b0:(a0_0 == 2) = true:=beq_iff_eq.mpr c12;have c12b1:(a0_0 != 2) = false:=bne_eq_false_iff_eq.mpr c12;clear c12;replace H:=Option.bind_eq_some_iff.mp H;obtain ⟨t145,A130,H⟩:=H;replace H:(if t145 = true then (if a0_1 = 0 then (some ((l0_3.length:Int) == 0)) else (some false)) else (some false)) = some r:=H;have A13:=Aside0.mk A130;clear A130
   by_cases c14:t145 = true
   ·subst c14
    have H1:(if a0_1 = 0 then (some ((l0_3.length:Int) == 0)) else (some false)) = some r:=by rw [if_pos rfl] at H;exact H
    clear H;have H:=H1;clear H1
    by_cases c15:a0_1 = 0
    ·rw [if_pos c15] at H
     have c15b0:(a0_1 == 0) = true:=beq_iff_eq.mpr c15;have c15b1:(a0_1 != 0) = false:=bne_eq_false_iff_eq.mpr c15;clear c15;obtain rfl:=Option.some.inj H
     go_enter Try.func32,Try.ntmps32
     go_wp2_with (first|((with_reducible refine gate_dst (N:=1) rfl ?_);(try (refine gate_guard (by rfl) ?_;dsimp only));refine box_event ?hg (N:=1) ?hd (cs:=#[.int .i64 a0_0,.int .i64 a0_1,.string a0_2,.slice A0_3 l0_3.length c0_3]) (t:=25) ?hr ?_;(case hd=>rfl);(case hg=>rfl);(case hr=>first|(go_simp;done)|(go_simp;rfl));intro gb143 hg w16 hbox hb;have n_:=ai (bq HB hb) <| ai (Aside0.mk (hbox)) <| ai (bz hg HB) <| bz hg HB;clear HB;obtain ⟨HB,BK143,GW143,GE143⟩:=n_;clear hb hbox hg;obtain ⟨h17_0,h17_1,h17_2,h17_3⟩:=kb4 BK143.out;obtain ⟨z17_0,z17_1,z17_2,z17_3⟩:=kz4 BK143.out)|((with_reducible refine gate_callee (f:=37) rfl ?_);refine goesL_ (some 25) rfl rfl Try.func37 (by kernel_rfl) rfl #[.string a0_2] rfl gs ?_;(with_reducible refine (spec_AtomOk.calls k a0_2 true _ A13.out).mono ?_);rintro e w' ⟨rfl,⟨nd,rfl⟩⟩;refine ⟨_,rfl,?_⟩))
     go_ret
     exact ⟨cl,bl HB.out⟩
    ·rw [if_neg c15] at H
     have c15b0:(a0_1 == 0) = false:=beq_eq_false_iff_ne.mpr c15;have c15b1:(a0_1 != 0) = true:=bne_iff_ne.mpr c15;obtain rfl:=Option.some.inj H
     go_enter Try.func32,Try.ntmps32
     go_wp2_with (first|((with_reducible refine gate_dst (N:=1) rfl ?_);(try (refine gate_guard (by rfl) ?_;dsimp only));refine box_event ?hg (N:=1) ?hd (cs:=#[.int .i64 a0_0,.int .i64 a0_1,.string a0_2,.slice A0_3 l0_3.length c0_3]) (t:=25) ?hr ?_;(case hd=>rfl);(case hg=>rfl);(case hr=>first|(go_simp;done)|(go_simp;rfl));intro gb143 hg w18 hbox hb;have n_:=ai (bq HB hb) <| ai (Aside0.mk (hbox)) <| ai (bz hg HB) <| bz hg HB;clear HB;obtain ⟨HB,BK143,GW143,GE143⟩:=n_;clear hb hbox hg;obtain ⟨h19_0,h19_1,h19_2,h19_3⟩:=kb4 BK143.out;obtain ⟨z19_0,z19_1,z19_2,z19_3⟩:=kz4 BK143.out)|((with_reducible refine gate_callee (f:=37) rfl ?_);refine goesL_ (some 25) rfl rfl Try.func37 (by kernel_rfl) rfl #[.string a0_2] rfl gs ?_;(with_reducible refine (spec_AtomOk.calls k a0_2 true _ A13.out).mono ?_);rintro e w' ⟨rfl,⟨nd,rfl⟩⟩;refine ⟨_,rfl,?_⟩))
     go_ret
     exact ⟨cl,bl HB.out⟩
   ·replace c14:=Bool.eq_false_iff.mpr c14
    subst c14;have H1:(some false) = some r:=by rw [if_neg (show ¬ (false = true) by decide)] at H;exact H
    clear H;have H:=H1;clear H1;obtain rfl:=Option.some.inj H
    go_enter Try.func32,Try.ntmps32
    go_wp2_with (first|((with_reducible refine gate_dst (N:=1) rfl ?_);(try (refine gate_guard (by rfl) ?_;dsimp only));refine box_event ?hg (N:=1) ?hd (cs:=#[.int .i64 a0_0,.int .i64 a0_1,.string a0_2,.slice A0_3 l0_3.length c0_3]) (t:=25) ?hr ?_;(case hd=>rfl);(case hg=>rfl);(case hr=>first|(go_simp;done)|(go_simp;rfl));intro gb143 hg w20 hbox hb;have n_:=ai (bq HB hb) <| ai (Aside0.mk (hbox)) <| ai (bz hg HB) <| bz hg HB;clear HB;obtain ⟨HB,BK143,GW143,GE143⟩:=n_;clear hb hbox hg;obtain ⟨h21_0,h21_1,h21_2,h21_3⟩:=kb4 BK143.out;obtain ⟨z21_0,z21_1,z21_2,z21_3⟩:=kz4 BK143.out)|((with_reducible refine gate_callee (f:=37) rfl ?_);refine goesL_ (some 25) rfl rfl Try.func37 (by kernel_rfl) rfl #[.string a0_2] rfl gs ?_;(with_reducible refine (spec_AtomOk.calls k a0_2 false _ A13.out).mono ?_);rintro e w' ⟨rfl,⟨nd,rfl⟩⟩;refine ⟨_,rfl,?_⟩))
    go_ret
    exact ⟨cl,bl HB.out⟩
  ·rw [if_neg c12] at H
   have c12b0:(a0_0 == 2) = false:=beq_eq_false_iff_ne.mpr c12;have c12b1:(a0_0 != 2) = true:=bne_iff_ne.mpr c12
   by_cases c22:a0_0 = 3
   ·rw [if_pos c22] at H
    have c22b0:(a0_0 == 3) = true:=beq_iff_eq.mpr c22;have c22b1:(a0_0 != 3) = false:=bne_eq_false_iff_eq.mpr c22;clear c22;replace H:=Option.bind_eq_some_iff.mp H;obtain ⟨t146,A230,H⟩:=H;replace H:(if t146 = true then (if a0_2.toList = ([]:List UInt8) then (some ((l0_3.length:Int) == 0)) else (some false)) else (some false)) = some r:=H;have A23:=Aside0.mk A230;clear A230
    by_cases c24:t146 = true
    ·subst c24
     have H1:(if a0_2.toList = ([]:List UInt8) then (some ((l0_3.length:Int) == 0)) else (some false)) = some r:=by rw [if_pos rfl] at H;exact H
     clear H;have H:=H1;clear H1
     by_cases c25:a0_2.toList = ([]:List UInt8)
     ·rw [if_pos c25] at H
      have c25b0:(a0_2.toList == ([]:List UInt8)) = true:=beq_iff_eq.mpr c25;have c25b1:(a0_2.toList != ([]:List UInt8)) = false:=bne_eq_false_iff_eq.mpr c25;clear c25;obtain rfl:=Option.some.inj H
      go_enter Try.func32,Try.ntmps32
      go_wp2_with (first|((with_reducible refine gate_dst (N:=1) rfl ?_);(try (refine gate_guard (by rfl) ?_;dsimp only));refine box_event ?hg (N:=1) ?hd (cs:=#[.int .i64 a0_0,.int .i64 a0_1,.string a0_2,.slice A0_3 l0_3.length c0_3]) (t:=25) ?hr ?_;(case hd=>rfl);(case hg=>rfl);(case hr=>first|(go_simp;done)|(go_simp;rfl));intro gb143 hg w26 hbox hb;have n_:=ai (bq HB hb) <| ai (Aside0.mk (hbox)) <| ai (bz hg HB) <| bz hg HB;clear HB;obtain ⟨HB,BK143,GW143,GE143⟩:=n_;clear hb hbox hg;obtain ⟨h27_0,h27_1,h27_2,h27_3⟩:=kb4 BK143.out;obtain ⟨z27_0,z27_1,z27_2,z27_3⟩:=kz4 BK143.out)|((with_reducible refine gate_callee (f:=23) rfl ?_);refine goesL_ (some 41) rfl rfl Try.func23 (by kernel_rfl) rfl #[.int .i64 a0_1,.int .i64 0,.int .i64 1000000] rfl gs ?_;(with_reducible refine (spec_l1In.calls a0_1 0 1000000 true _ A23.out).mono ?_);rintro e w' ⟨rfl,⟨nd,rfl⟩⟩;refine ⟨_,rfl,?_⟩))
      go_ret
      exact ⟨cl,bl HB.out⟩
     ·rw [if_neg c25] at H
      have c25b0:(a0_2.toList == ([]:List UInt8)) = false:=beq_eq_false_iff_ne.mpr c25;have c25b1:(a0_2.toList != ([]:List UInt8)) = true:=bne_iff_ne.mpr c25;obtain rfl:=Option.some.inj H
      go_enter Try.func32,Try.ntmps32
      go_wp2_with (first|((with_reducible refine gate_dst (N:=1) rfl ?_);(try (refine gate_guard (by rfl) ?_;dsimp only));refine box_event ?hg (N:=1) ?hd (cs:=#[.int .i64 a0_0,.int .i64 a0_1,.string a0_2,.slice A0_3 l0_3.length c0_3]) (t:=25) ?hr ?_;(case hd=>rfl);(case hg=>rfl);(case hr=>first|(go_simp;done)|(go_simp;rfl));intro gb143 hg w28 hbox hb;have n_:=ai (bq HB hb) <| ai (Aside0.mk (hbox)) <| ai (bz hg HB) <| bz hg HB;clear HB;obtain ⟨HB,BK143,GW143,GE143⟩:=n_;clear hb hbox hg;obtain ⟨h29_0,h29_1,h29_2,h29_3⟩:=kb4 BK143.out;obtain ⟨z29_0,z29_1,z29_2,z29_3⟩:=kz4 BK143.out)|((with_reducible refine gate_callee (f:=23) rfl ?_);refine goesL_ (some 41) rfl rfl Try.func23 (by kernel_rfl) rfl #[.int .i64 a0_1,.int .i64 0,.int .i64 1000000] rfl gs ?_;(with_reducible refine (spec_l1In.calls a0_1 0 1000000 true _ A23.out).mono ?_);rintro e w' ⟨rfl,⟨nd,rfl⟩⟩;refine ⟨_,rfl,?_⟩))
      go_ret
      exact ⟨cl,bl HB.out⟩
    ·replace c24:=Bool.eq_false_iff.mpr c24
     subst c24;have H1:(some false) = some r:=by rw [if_neg (show ¬ (false = true) by decide)] at H;exact H
     clear H;have H:=H1;clear H1;obtain rfl:=Option.some.inj H
     go_enter Try.func32,Try.ntmps32
     go_wp2_with (first|((with_reducible refine gate_dst (N:=1) rfl ?_);(try (refine gate_guard (by rfl) ?_;dsimp only));refine box_event ?hg (N:=1) ?hd (cs:=#[.int .i64 a0_0,.int .i64 a0_1,.string a0_2,.slice A0_3 l0_3.length c0_3]) (t:=25) ?hr ?_;(case hd=>rfl);(case hg=>rfl);(case hr=>first|(go_simp;done)|(go_simp;rfl));intro gb143 hg w30 hbox hb;have n_:=ai (bq HB hb) <| ai (Aside0.mk (hbox)) <| ai (bz hg HB) <| bz hg HB;clear HB;obtain ⟨HB,BK143,GW143,GE143⟩:=n_;clear hb hbox hg;obtain ⟨h31_0,h31_1,h31_2,h31_3⟩:=kb4 BK143.out;obtain ⟨z31_0,z31_1,z31_2,z31_3⟩:=kz4 BK143.out)|((with_reducible refine gate_callee (f:=23) rfl ?_);refine goesL_ (some 41) rfl rfl Try.func23 (by kernel_rfl) rfl #[.int .i64 a0_1,.int .i64 0,.int .i64 1000000] rfl gs ?_;(with_reducible refine (spec_l1In.calls a0_1 0 1000000 false _ A23.out).mono ?_);rintro e w' ⟨rfl,⟨nd,rfl⟩⟩;refine ⟨_,rfl,?_⟩))
     go_ret
     exact ⟨cl,bl HB.out⟩
   ·rw [if_neg c22] at H
    have c22b0:(a0_0 == 3) = false:=beq_eq_false_iff_ne.mpr c22;have c22b1:(a0_0 != 3) = true:=bne_iff_ne.mpr c22
    by_cases c32:a0_0 = 4
    ·rw [if_pos c32] at H
     have c32b0:(a0_0 == 4) = true:=beq_iff_eq.mpr c32;have c32b1:(a0_0 != 4) = false:=bne_eq_false_iff_eq.mpr c32;clear c32
     by_cases c33:a0_1 = 0
     ·rw [if_pos c33] at H
      have c33b0:(a0_1 == 0) = true:=beq_iff_eq.mpr c33;have c33b1:(a0_1 != 0) = false:=bne_eq_false_iff_eq.mpr c33;clear c33
      by_cases c34:a0_2.toList = ([]:List UInt8)
      ·rw [if_pos c34] at H
       have c34b0:(a0_2.toList == ([]:List UInt8)) = true:=beq_iff_eq.mpr c34;have c34b1:(a0_2.toList != ([]:List UInt8)) = false:=bne_eq_false_iff_eq.mpr c34;clear c34;obtain rfl:=Option.some.inj H
       go_enter Try.func32,Try.ntmps32
       go_wp2_with (first|((with_reducible refine gate_dst (N:=1) rfl ?_);(try (refine gate_guard (by rfl) ?_;dsimp only));refine box_event ?hg (N:=1) ?hd (cs:=#[.int .i64 a0_0,.int .i64 a0_1,.string a0_2,.slice A0_3 l0_3.length c0_3]) (t:=25) ?hr ?_;(case hd=>rfl);(case hg=>rfl);(case hr=>first|(go_simp;done)|(go_simp;rfl));intro gb143 hg w35 hbox hb;have n_:=ai (bq HB hb) <| ai (Aside0.mk (hbox)) <| ai (bz hg HB) <| bz hg HB;clear HB;obtain ⟨HB,BK143,GW143,GE143⟩:=n_;clear hb hbox hg;obtain ⟨h36_0,h36_1,h36_2,h36_3⟩:=kb4 BK143.out;obtain ⟨z36_0,z36_1,z36_2,z36_3⟩:=kz4 BK143.out))
       go_ret
       exact ⟨cl,bl HB.out⟩
      ·rw [if_neg c34] at H
       have c34b0:(a0_2.toList == ([]:List UInt8)) = false:=beq_eq_false_iff_ne.mpr c34;have c34b1:(a0_2.toList != ([]:List UInt8)) = true:=bne_iff_ne.mpr c34;obtain rfl:=Option.some.inj H
       go_enter Try.func32,Try.ntmps32
       go_wp2_with (first|((with_reducible refine gate_dst (N:=1) rfl ?_);(try (refine gate_guard (by rfl) ?_;dsimp only));refine box_event ?hg (N:=1) ?hd (cs:=#[.int .i64 a0_0,.int .i64 a0_1,.string a0_2,.slice A0_3 l0_3.length c0_3]) (t:=25) ?hr ?_;(case hd=>rfl);(case hg=>rfl);(case hr=>first|(go_simp;done)|(go_simp;rfl));intro gb143 hg w37 hbox hb;have n_:=ai (bq HB hb) <| ai (Aside0.mk (hbox)) <| ai (bz hg HB) <| bz hg HB;clear HB;obtain ⟨HB,BK143,GW143,GE143⟩:=n_;clear hb hbox hg;obtain ⟨h38_0,h38_1,h38_2,h38_3⟩:=kb4 BK143.out;obtain ⟨z38_0,z38_1,z38_2,z38_3⟩:=kz4 BK143.out))
       go_ret
       exact ⟨cl,bl HB.out⟩
     ·rw [if_neg c33] at H
      have c33b0:(a0_1 == 0) = false:=beq_eq_false_iff_ne.mpr c33;have c33b1:(a0_1 != 0) = true:=bne_iff_ne.mpr c33;obtain rfl:=Option.some.inj H
      go_enter Try.func32,Try.ntmps32
      go_wp2_with (first|((with_reducible refine gate_dst (N:=1) rfl ?_);(try (refine gate_guard (by rfl) ?_;dsimp only));refine box_event ?hg (N:=1) ?hd (cs:=#[.int .i64 a0_0,.int .i64 a0_1,.string a0_2,.slice A0_3 l0_3.length c0_3]) (t:=25) ?hr ?_;(case hd=>rfl);(case hg=>rfl);(case hr=>first|(go_simp;done)|(go_simp;rfl));intro gb143 hg w39 hbox hb;have n_:=ai (bq HB hb) <| ai (Aside0.mk (hbox)) <| ai (bz hg HB) <| bz hg HB;clear HB;obtain ⟨HB,BK143,GW143,GE143⟩:=n_;clear hb hbox hg;obtain ⟨h40_0,h40_1,h40_2,h40_3⟩:=kb4 BK143.out;obtain ⟨z40_0,z40_1,z40_2,z40_3⟩:=kz4 BK143.out))
      go_ret
      exact ⟨cl,bl HB.out⟩
    ·rw [if_neg c32] at H
     have c32b0:(a0_0 == 4) = false:=beq_eq_false_iff_ne.mpr c32;have c32b1:(a0_0 != 4) = true:=bne_iff_ne.mpr c32
     by_cases c41:a0_0 = 5
     ·rw [if_pos c41] at H
      have c41b0:(a0_0 == 5) = true:=beq_iff_eq.mpr c41;have c41b1:(a0_0 != 5) = false:=bne_eq_false_iff_eq.mpr c41;clear c41
      by_cases c42:a0_1 = 0
      ·rw [if_pos c42] at H
       have c42b0:(a0_1 == 0) = true:=beq_iff_eq.mpr c42;have c42b1:(a0_1 != 0) = false:=bne_eq_false_iff_eq.mpr c42;clear c42
       by_cases c43:a0_2.toList = ([]:List UInt8)
       ·rw [if_pos c43] at H
        have c43b0:(a0_2.toList == ([]:List UInt8)) = true:=beq_iff_eq.mpr c43;have c43b1:(a0_2.toList != ([]:List UInt8)) = false:=bne_eq_false_iff_eq.mpr c43;clear c43;obtain rfl:=Option.some.inj H
        go_enter Try.func32,Try.ntmps32
        go_wp2_with (first|((with_reducible refine gate_dst (N:=1) rfl ?_);(try (refine gate_guard (by rfl) ?_;dsimp only));refine box_event ?hg (N:=1) ?hd (cs:=#[.int .i64 a0_0,.int .i64 a0_1,.string a0_2,.slice A0_3 l0_3.length c0_3]) (t:=25) ?hr ?_;(case hd=>rfl);(case hg=>rfl);(case hr=>first|(go_simp;done)|(go_simp;rfl));intro gb143 hg w44 hbox hb;have n_:=ai (bq HB hb) <| ai (Aside0.mk (hbox)) <| ai (bz hg HB) <| bz hg HB;clear HB;obtain ⟨HB,BK143,GW143,GE143⟩:=n_;clear hb hbox hg;obtain ⟨h45_0,h45_1,h45_2,h45_3⟩:=kb4 BK143.out;obtain ⟨z45_0,z45_1,z45_2,z45_3⟩:=kz4 BK143.out))
        go_ret
        exact ⟨cl,bl HB.out⟩
       ·rw [if_neg c43] at H
        have c43b0:(a0_2.toList == ([]:List UInt8)) = false:=beq_eq_false_iff_ne.mpr c43;have c43b1:(a0_2.toList != ([]:List UInt8)) = true:=bne_iff_ne.mpr c43;obtain rfl:=Option.some.inj H
        go_enter Try.func32,Try.ntmps32
        go_wp2_with (first|((with_reducible refine gate_dst (N:=1) rfl ?_);(try (refine gate_guard (by rfl) ?_;dsimp only));refine box_event ?hg (N:=1) ?hd (cs:=#[.int .i64 a0_0,.int .i64 a0_1,.string a0_2,.slice A0_3 l0_3.length c0_3]) (t:=25) ?hr ?_;(case hd=>rfl);(case hg=>rfl);(case hr=>first|(go_simp;done)|(go_simp;rfl));intro gb143 hg w46 hbox hb;have n_:=ai (bq HB hb) <| ai (Aside0.mk (hbox)) <| ai (bz hg HB) <| bz hg HB;clear HB;obtain ⟨HB,BK143,GW143,GE143⟩:=n_;clear hb hbox hg;obtain ⟨h47_0,h47_1,h47_2,h47_3⟩:=kb4 BK143.out;obtain ⟨z47_0,z47_1,z47_2,z47_3⟩:=kz4 BK143.out))
        go_ret
        exact ⟨cl,bl HB.out⟩
      ·rw [if_neg c42] at H
       have c42b0:(a0_1 == 0) = false:=beq_eq_false_iff_ne.mpr c42;have c42b1:(a0_1 != 0) = true:=bne_iff_ne.mpr c42;obtain rfl:=Option.some.inj H
       go_enter Try.func32,Try.ntmps32
       go_wp2_with (first|((with_reducible refine gate_dst (N:=1) rfl ?_);(try (refine gate_guard (by rfl) ?_;dsimp only));refine box_event ?hg (N:=1) ?hd (cs:=#[.int .i64 a0_0,.int .i64 a0_1,.string a0_2,.slice A0_3 l0_3.length c0_3]) (t:=25) ?hr ?_;(case hd=>rfl);(case hg=>rfl);(case hr=>first|(go_simp;done)|(go_simp;rfl));intro gb143 hg w48 hbox hb;have n_:=ai (bq HB hb) <| ai (Aside0.mk (hbox)) <| ai (bz hg HB) <| bz hg HB;clear HB;obtain ⟨HB,BK143,GW143,GE143⟩:=n_;clear hb hbox hg;obtain ⟨h49_0,h49_1,h49_2,h49_3⟩:=kb4 BK143.out;obtain ⟨z49_0,z49_1,z49_2,z49_3⟩:=kz4 BK143.out))
       go_ret
       exact ⟨cl,bl HB.out⟩
     ·rw [if_neg c41] at H
      have c41b0:(a0_0 == 5) = false:=beq_eq_false_iff_ne.mpr c41;have c41b1:(a0_0 != 5) = true:=bne_iff_ne.mpr c41;obtain rfl:=Option.some.inj H
      go_enter Try.func32,Try.ntmps32
      go_wp2_with (first|((with_reducible refine gate_dst (N:=1) rfl ?_);(try (refine gate_guard (by rfl) ?_;dsimp only));refine box_event ?hg (N:=1) ?hd (cs:=#[.int .i64 a0_0,.int .i64 a0_1,.string a0_2,.slice A0_3 l0_3.length c0_3]) (t:=25) ?hr ?_;(case hd=>rfl);(case hg=>rfl);(case hr=>first|(go_simp;done)|(go_simp;rfl));intro gb143 hg w50 hbox hb;have n_:=ai (bq HB hb) <| ai (Aside0.mk (hbox)) <| ai (bz hg HB) <| bz hg HB;clear HB;obtain ⟨HB,BK143,GW143,GE143⟩:=n_;clear hb hbox hg;obtain ⟨h51_0,h51_1,h51_2,h51_3⟩:=kb4 BK143.out;obtain ⟨z51_0,z51_1,z51_2,z51_3⟩:=kz4 BK143.out))
      go_ret
      exact ⟨cl,bl HB.out⟩

/-! ### spec_l2Look: function 24 -/
mutual
def spec_l2Look.j0:Nat → Int → Int → Bool → Int → Int → ByteArray → List (S25) → Option (Int)
 | 0,_,_,_,_,_,_,_=>none
 | k + 1,x1,x2,x18,x148000,x148001,x148002,x148003=>if x18 = true then (some (-1)) else (spec_l2Look.l0 k x1 (wrap64 (x2 - 1)) 0 x148000 x148001 x148002 x148003)
def spec_l2Look.l0:Nat → Int → Int → Int → Int → Int → ByteArray → List (S25) → Option (Int)
 | 0,_,_,_,_,_,_,_=>none
 | k + 1,x1,x2,x7,x148000,x148001,x148002,x148003=>if x7 < (x148003.length:Int) then (if x2 ≥ 0 then (if 0≤x7 then ((spec_l2Look.f k ((rd_T25 x148003 x7).f0) ((rd_T25 x148003 x7).f1) ((rd_T25 x148003 x7).f2) ((rd_T25 x148003 x7).f3) (wrap64 (x1 - 1)) x2).bind fun t150=>(spec_l2Look.l0 k x1 t150 (wrap64 (x7 + 1)) x148000 x148001 x148002 x148003)) else (none)) else (some x2)) else (some x2)
def spec_l2Look.f:Nat → Int → Int → ByteArray → List (S25) → Int → Int → Option (Int)
 | 0,_,_,_,_,_,_=>none
 | k + 1,a0_0,a0_1,a0_2,l0_3,a1,a2=>if a1 < 1 then (spec_l2Look.j0 k a1 a2 true a0_0 a0_1 a0_2 l0_3) else (if a2 < 1 then (spec_l2Look.j0 k a1 a2 true a0_0 a0_1 a0_2 l0_3) else ((spec_l2Shape.f k a0_0 a0_1 a0_2 l0_3).bind fun t148=>(spec_l2Look.j0 k a1 a2 (!t148) a0_0 a0_1 a0_2 l0_3)))
end
theorem spec_l2Look.mono_l:∀ k,(∀ y0 y1 y2 y3 y4 y5,LeO (spec_l2Look.f k y0 y1 y2 y3 y4 y5) (spec_l2Look.f (k + 1) y0 y1 y2 y3 y4 y5))∧(∀ y0 y1 y2 y3 y4 y5 y6,LeO (spec_l2Look.j0 k y0 y1 y2 y3 y4 y5 y6) (spec_l2Look.j0 (k + 1) y0 y1 y2 y3 y4 y5 y6))∧(∀ y0 y1 y2 y3 y4 y5 y6,LeO (spec_l2Look.l0 k y0 y1 y2 y3 y4 y5 y6) (spec_l2Look.l0 (k + 1) y0 y1 y2 y3 y4 y5 y6))
 | 0=>⟨fun _ _ _ _ _ _ r h=>by simp [spec_l2Look.f] at h,fun _ _ _ _ _ _ _ r h=>by simp [spec_l2Look.j0] at h,fun _ _ _ _ _ _ _ r h=>by simp [spec_l2Look.l0] at h⟩
 | k + 1=>by
  obtain ⟨ih0,ih1,ih2⟩:=spec_l2Look.mono_l k
  refine ⟨?_,?_,?_⟩
  ·intro y0 y1 y2 y3 y4 y5
   unfold spec_l2Look.f
   with_reducible repeat' first|apply ih0|apply ih1|apply ih2|apply spec_l2Shape.mono|apply LeO.refl|apply LeO.none|apply LeO.ite|refine LeO.bind ?_ (fun _=>?_)
  ·intro y0 y1 y2 y3 y4 y5 y6
   unfold spec_l2Look.j0
   with_reducible repeat' first|apply ih0|apply ih1|apply ih2|apply spec_l2Shape.mono|apply LeO.refl|apply LeO.none|apply LeO.ite|refine LeO.bind ?_ (fun _=>?_)
  ·intro y0 y1 y2 y3 y4 y5 y6
   unfold spec_l2Look.l0
   with_reducible repeat' first|apply ih0|apply ih1|apply ih2|apply spec_l2Shape.mono|apply LeO.refl|apply LeO.none|apply LeO.ite|refine LeO.bind ?_ (fun _=>?_)
theorem spec_l2Look.mono:∀ a0 a1 a2 a3 a4 a5 k,LeO (spec_l2Look.f k a0 a1 a2 a3 a4 a5) (spec_l2Look.f (k + 1) a0 a1 a2 a3 a4 a5):=by
 intro a0 a1 a2 a3 a4 a5 k;obtain ⟨ih0,ih1,ih2⟩:=spec_l2Look.mono_l k
 exact ih0 a0 a1 a2 a3 a4 a5
set_option maxHeartbeats 8000000 in
set_option maxRecDepth 100000 in
theorem spec_l2Look.calls (k:Nat):∀ (a0_0:Int) (a0_1:Int) (a0_2:ByteArray) (A0_3:Option Addr) (c0_3:Nat) (l0_3:List (S25)) (a1:Int) (a2:Int) (r:Int) (w:World) (hr0_3:Kd.C k25 w A0_3 l0_3.length l0_3) (hc0_3:l0_3.length≤c0_3) (h:spec_l2Look.f k a0_0 a0_1 a0_2 l0_3 a1 a2 = some r),
  Calls Try.prog 24 #[.agg #[.int .i64 a0_0,.int .i64 a0_1,.string a0_2,.slice A0_3 l0_3.length c0_3],.int .i64 a1,.int .i64 a2] w fun e w'=>e = .returned (.int .i64 r)∧Below w.heap.size w w':=by
 induction k using Nat.strongRecOn with
 | _ k ih =>
 intro a0_0 a0_1 a0_2 A0_3 c0_3 l0_3 a1 a2 r w hr0_3 hc0_3 h
 cases k with
 | zero=>exact absurd h (by simp [spec_l2Look.f])
 | succ k =>
 simp only [spec_l2Look.f] at h;have hu25:=Try.underlying25;have HR0_3:=Aside0.mk hr0_3;have HC0_3:=Aside0.mk hc0_3;clear hr0_3 hc0_3;have HB:=Aside0.mk (Below.refl w.heap.size w);have H:(if a1 < 1 then (spec_l2Look.j0 k a1 a2 true a0_0 a0_1 a0_2 l0_3) else (if a2 < 1 then (spec_l2Look.j0 k a1 a2 true a0_0 a0_1 a0_2 l0_3) else ((spec_l2Shape.f k a0_0 a0_1 a0_2 l0_3).bind fun t148=>(spec_l2Look.j0 k a1 a2 (!t148) a0_0 a0_1 a0_2 l0_3)))) = some r:=h;clear h;have HC4:=Aside0.mk H;clear H
 go_enter Try.func24,Try.ntmps24
 go_upto_region 1 with (first|((with_reducible refine gate_dst (N:=3) rfl ?_);refine box_event ?hg (N:=3) ?hd (cs:=#[.int .i64 a0_0,.int .i64 a0_1,.string a0_2,.slice A0_3 l0_3.length c0_3]) (t:=25) ?hr ?_;(case hd=>rfl);(case hg=>rfl);(case hr=>first|(go_simp;done)|(go_simp;rfl));intro gb147 hg w5 hbox hb;have n_:=ai (bq HB hb) <| ai (Aside0.mk (hbox)) <| ai (bz hg HB) <| bz hg HB;clear HB;obtain ⟨HB,BK147,GW147,GE147⟩:=n_;clear hb hbox hg))
 (try simp only [Act.put,List.setIfInBounds_toArray,List.set_cons_zero,List.set_cons_succ])
 go_cut [18] (fun v18 wc=>∃ (kq:Nat) (x18_3:Bool),v18 = .bool x18_3∧Aside0 (spec_l2Look.j0 kq a1 a2 x18_3 a0_0 a0_1 a0_2 l0_3 = some r)∧Aside0 (kq≤k)∧Aside0 (wc.heap[gb147]? = some (.cells #[.int .i64 a0_0,.int .i64 a0_1,.string a0_2,(.slice A0_3 l0_3.length c0_3)] 25 (0,0)))∧Aside0 (Below w.heap.size w wc))
 case first =>
  have H:=HC4.out;clear HC4
  by_cases c6:a1 < 1
  ·rw [if_pos c6] at H
   have c6b0:decide (a1 < 1) = true:=decide_eq_true c6;clear c6
   (first|rw [c6b0]|(simp only [i64_w,i32_w];rw [c6b0])|(simp only [c6b2,Bool.not_true,Bool.not_false])|skip)
   have H':=Aside0.mk H;clear H
   go_wp2
   go_meet
   case rel=>exact ⟨_,(true),(cl2),H',⟨by first|omega|exact Nat.le_refl _⟩,⟨bk BK147.out⟩,⟨bl HB.out⟩⟩
  ·rw [if_neg c6] at H
   have c6b0:decide (a1 < 1) = false:=decide_eq_false c6;clear c6
   (first|rw [c6b0]|(simp only [i64_w,i32_w];rw [c6b0])|(simp only [c6b2,Bool.not_true,Bool.not_false])|skip)
   by_cases c7:a2 < 1
   ·rw [if_pos c7] at H
    have c7b0:decide (a2 < 1) = true:=decide_eq_true c7;clear c7;have H':=Aside0.mk H;clear H
    go_wp2
    go_meet
    case rel=>exact ⟨_,(true),(cl2),H',⟨by first|omega|exact Nat.le_refl _⟩,⟨bk BK147.out⟩,⟨bl HB.out⟩⟩
   ·rw [if_neg c7] at H
    have c7b0:decide (a2 < 1) = false:=decide_eq_false c7;clear c7;replace H:=Option.bind_eq_some_iff.mp H;obtain ⟨t148,A80,H⟩:=H;replace H:(spec_l2Look.j0 k a1 a2 (!t148) a0_0 a0_1 a0_2 l0_3) = some r:=H;have A8:=Aside0.mk A80;clear A80;have H':=Aside0.mk H;clear H;obtain ⟨h9_0,h9_1,h9_2,h9_3⟩:=kb4 BK147.out
    go_wp2_with (first|(go_at_call 32;(with_reducible refine (spec_l2Shape.calls k a0_0 a0_1 a0_2 _ _ l0_3 t148 _ ?side1 ?side2 A8.out).mono ?_);(case side1=>exact ck (Kd.C_below HR0_3.out HB.out));(case side2=>exact HC0_3.out);rintro e w10 ⟨rfl,hb⟩;have n_:=ai (bw BK147 hb) <| bq HB hb;clear BK147 HB;obtain ⟨BK147,HB⟩:=n_;(try clear hb);(try clear hi)))
    go_meet
    case rel=>exact ⟨_,(!t148),(cl2),H',⟨by first|omega|exact Nat.le_refl _⟩,⟨bk BK147.out⟩,⟨bl HB.out⟩⟩
 case rest =>
  clear HC4;(try clear BK147);(try clear HB);obtain ⟨kq,x18_3,rfl,HA,HJ3,BK147,HB⟩:=hcut
  cases kq with
  | zero=>exact absurd HA.out (by simp [spec_l2Look.j0])
  | succ kj3 =>
   have H:=HA.out;clear HA;simp only [spec_l2Look.j0] at H
   by_cases c11:x18_3 = true
   ·subst c11
    have H1:(some (-1)) = some r:=by rw [if_pos rfl] at H;exact H
    clear H;have H:=H1;clear H1;obtain rfl:=Option.some.inj H
    go_wp2
    go_ret
    exact ⟨cl,bl HB.out⟩
   ·replace c11:=Bool.eq_false_iff.mpr c11
    subst c11;have H1:(spec_l2Look.l0 kj3 a1 (wrap64 (a2 - 1)) 0 a0_0 a0_1 a0_2 l0_3) = some r:=by rw [if_neg (show ¬ (false = true) by decide)] at H;exact H
    clear H;have H:=H1;clear H1;have H':=Aside0.mk H;clear H
    go_wp2
    go_loopg [2,7] kj3 (fun kq v2 v7 w'=>∃ (x2_2:Int) (x7_2:Int),v2 = .int .i64 x2_2∧v7 = .int .i64 x7_2∧Aside0 (spec_l2Look.l0 kq a1 x2_2 x7_2 a0_0 a0_1 a0_2 l0_3 = some r)∧Aside0 (kq≤kj3)∧Aside0 (w'.heap[gb147]? = some (.cells #[.int .i64 a0_0,.int .i64 a0_1,.string a0_2,(.slice A0_3 l0_3.length c0_3)] 25 (0,0)))∧Aside0 (Below w.heap.size w w'))
    case atStart=>exact ⟨(wrap64 (a2 - 1)),(0),(cl2),(cl2),H',⟨Nat.le_refl _⟩,⟨bk BK147.out⟩,⟨bl HB.out⟩⟩
    case round =>
     clear H';(try clear c11);(try clear p2);(try clear BK147);(try clear HB);obtain ⟨x2_2,x7_2,rfl,rfl,HA,HK2,BK147,HB⟩:=hrel
     cases gk with
     | zero=>exact absurd HA.out (by simp [spec_l2Look.l0])
     | succ k2 =>
      have H:=HA.out;clear HA;simp only [spec_l2Look.l0] at H
      by_cases c12:x7_2 < (l0_3.length:Int)
      ·rw [if_pos c12] at H
       have c12b0:decide (x7_2 < (l0_3.length:Int)) = true:=decide_eq_true c12;clear c12
       by_cases c13:x2_2 ≥ 0
       ·rw [if_pos c13] at H
        have c13b0:decide (0≤x2_2) = true:=decide_eq_true c13;clear c13
        by_cases c14:0≤x7_2
        ·rw [if_pos c14] at H
         have c14b0:decide (0≤x7_2) = true:=decide_eq_true c14;clear c14;replace H:=Option.bind_eq_some_iff.mp H;obtain ⟨t150,A150,H⟩:=H;replace H:(spec_l2Look.l0 k2 a1 t150 (wrap64 (x7_2 + 1)) a0_0 a0_1 a0_2 l0_3) = some r:=H;have A15:=Aside0.mk A150;clear A150;have H':=Aside0.mk H;clear H;obtain ⟨h16_0,h16_1,h16_2,h16_3⟩:=kb4 BK147.out;have p149:0≤(x7_2:Int):=od;have q149:x7_2 < (l0_3.length:Int):=od;obtain ⟨ad149,A149_3,c149_3,e149,hx149_0,hx149_1,hx149_2,hx149_3,hl149_3,hi149_3⟩:=at_T25 HR0_3.out x7_2 p149 q149;cases e149;replace hx149_0:=cb HB hx149_0;replace hx149_1:=cb HB hx149_1;replace hx149_2:=cb HB hx149_2;replace hx149_3:=cb HB hx149_3;have HR149_3:=Aside0.mk hi149_3;have HC149_3:=Aside0.mk hl149_3;clear hi149_3 hl149_3;replace p149:=eq_true p149;replace q149:=eq_true q149
         go_wp2_with (first|((with_reducible refine gate_callee (f:=24) rfl ?_);refine goesL_ (some 40) rfl rfl Try.func24 (by kernel_rfl) rfl #[.agg #[.int .i64 ((rd_T25 l0_3 x7_2).f0),.int .i64 ((rd_T25 l0_3 x7_2).f1),.string ((rd_T25 l0_3 x7_2).f2),.slice A149_3 ((rd_T25 l0_3 x7_2).f3).length c149_3],.int .i64 (wrap64 (a1 - 1)),.int .i64 x2_2] rfl gs ?_;(with_reducible refine (ih k2 (by have:=HJ3.out;have:=HK2.out;omega) ((rd_T25 l0_3 x7_2).f0) ((rd_T25 l0_3 x7_2).f1) ((rd_T25 l0_3 x7_2).f2) _ _ ((rd_T25 l0_3 x7_2).f3) (wrap64 (a1 - 1)) x2_2 t150 _ ?side1 ?side2 A15.out).mono ?_);(case side1=>exact ck (Kd.C_below HR149_3.out HB.out));(case side2=>exact HC149_3.out);rintro e w17 ⟨rfl,hb⟩;refine ⟨_,rfl,?_⟩;have n_:=ai (bw BK147 hb) <| bq HB hb;clear BK147 HB;obtain ⟨BK147,HB⟩:=n_;(try clear hb);(try clear hi)))
         go_roundg k2
         case measure=>have:=HJ3.out;have:=HK2.out;omega
         case rel=>exact ⟨(t150),(wrap64 (x7_2 + 1)),(cl2),(cl2),H',⟨by have:=HJ3.out;have:=HK2.out;omega⟩,⟨bk BK147.out⟩,⟨bl HB.out⟩⟩
        ·rw [if_neg c14] at H
         exact absurd H (by simp)
       ·rw [if_neg c13] at H
        have c13b0:decide (0≤x2_2) = false:=decide_eq_false c13;clear c13;obtain rfl:=Option.some.inj H;obtain ⟨h18_0,h18_1,h18_2,h18_3⟩:=kb4 BK147.out
        go_wp2
        go_ret
        exact ⟨cl,bl HB.out⟩
      ·rw [if_neg c12] at H
       have c12b0:decide (x7_2 < (l0_3.length:Int)) = false:=decide_eq_false c12;clear c12;obtain rfl:=Option.some.inj H;obtain ⟨h19_0,h19_1,h19_2,h19_3⟩:=kb4 BK147.out
       go_wp2
       go_ret
       exact ⟨cl,bl HB.out⟩

/-! ### spec_TermOk: function 13 -/
def spec_TermOk.f (k:Nat) (a0_0:Int) (a0_1:Int) (a0_2:ByteArray) (l0_3:List (S25)):Option (Bool):=(spec_l2Look.f k a0_0 a0_1 a0_2 l0_3 8 300).bind fun t152=>(some (decide (t152 ≥ 0)))
theorem spec_TermOk.mono:∀ a0 a1 a2 a3 k,LeO (spec_TermOk.f k a0 a1 a2 a3) (spec_TermOk.f (k + 1) a0 a1 a2 a3):=by
 intro a0 a1 a2 a3 k
 unfold spec_TermOk.f
 with_reducible repeat' first|apply spec_l2Look.mono|apply LeO.refl|apply LeO.none|apply LeO.ite|refine LeO.bind ?_ (fun _=>?_)
set_option maxHeartbeats 8000000 in
set_option maxRecDepth 100000 in
theorem spec_TermOk.calls (k:Nat) (a0_0:Int) (a0_1:Int) (a0_2:ByteArray) (A0_3:Option Addr) (c0_3:Nat) (l0_3:List (S25)) (r:Bool) (w:World) (hr0_3:Kd.C k25 w A0_3 l0_3.length l0_3) (hc0_3:l0_3.length≤c0_3) (h:spec_TermOk.f k a0_0 a0_1 a0_2 l0_3 = some r) :
  Calls Try.prog 13 #[.agg #[.int .i64 a0_0,.int .i64 a0_1,.string a0_2,.slice A0_3 l0_3.length c0_3]] w fun e w'=>e = .returned (.bool r)∧Below w.heap.size w w':=by
 have hu25:=Try.underlying25;have HR0_3:=Aside0.mk hr0_3;have HC0_3:=Aside0.mk hc0_3;clear hr0_3 hc0_3;have HB:=Aside0.mk (Below.refl w.heap.size w);have H:((spec_l2Look.f k a0_0 a0_1 a0_2 l0_3 8 300).bind fun t152=>(some (decide (t152 ≥ 0)))) = some r:=h;clear h;replace H:=Option.bind_eq_some_iff.mp H;obtain ⟨t152,A20,H⟩:=H;replace H:(some (decide (t152 ≥ 0))) = some r:=H;have A2:=Aside0.mk A20;clear A20;obtain rfl:=Option.some.inj H
 go_enter Try.func13,Try.ntmps13
 go_wp2_with (first|((with_reducible refine gate_dst (N:=1) rfl ?_);refine box_event ?hg (N:=1) ?hd (cs:=#[.int .i64 a0_0,.int .i64 a0_1,.string a0_2,.slice A0_3 l0_3.length c0_3]) (t:=25) ?hr ?_;(case hd=>rfl);(case hg=>rfl);(case hr=>first|(go_simp;done)|(go_simp;rfl));intro gb151 hg w3 hbox hb;have n_:=ai (bq HB hb) <| ai (Aside0.mk (hbox)) <| ai (bz hg HB) <| bz hg HB;clear HB;obtain ⟨HB,BK151,GW151,GE151⟩:=n_;clear hb hbox hg;obtain ⟨h4_0,h4_1,h4_2,h4_3⟩:=kb4 BK151.out;obtain ⟨z4_0,z4_1,z4_2,z4_3⟩:=kz4 BK151.out)|((with_reducible refine gate_callee (f:=24) rfl ?_);refine goesL_ (some 4) rfl rfl Try.func24 (by kernel_rfl) rfl #[.agg #[.int .i64 a0_0,.int .i64 a0_1,.string a0_2,.slice A0_3 l0_3.length c0_3],.int .i64 8,.int .i64 300] rfl gs ?_;(with_reducible refine (spec_l2Look.calls k a0_0 a0_1 a0_2 _ _ l0_3 8 300 t152 _ ?side1 ?side2 A2.out).mono ?_);(case side1=>exact ck (Kd.C_below HR0_3.out HB.out));(case side2=>exact HC0_3.out);rintro e w5 ⟨rfl,hb⟩;refine ⟨_,rfl,?_⟩;have n_:=ai (bw BK151 hb) <| bq HB hb;clear BK151 HB;obtain ⟨BK151,HB⟩:=n_;(try clear hb);(try clear hi)))
 go_ret
 exact ⟨cl,bl HB.out⟩

/-! ### spec_GetTerm: function 4 -/
def spec_GetTerm.f (k:Nat) (l0:List Int):Option (Int × Int × ByteArray × (List (S25)) × Bool):=(spec_l2Get.f k l0 0 8).bind fun bt154=>(if bt154.2.2.2.2.2 = true then (if bt154.2.2.2.2.1 = (l0.length:Int) then ((spec_TermOk.f k bt154.1 bt154.2.1 bt154.2.2.1 bt154.2.2.2.1).bind fun t163=>(if t163 = true then (some (bt154.1,bt154.2.1,bt154.2.2.1,bt154.2.2.2.1,true)) else (some (0,0,(⟨#[]⟩:ByteArray),([]:List (S25)),false)))) else (some (0,0,(⟨#[]⟩:ByteArray),([]:List (S25)),false))) else (some (0,0,(⟨#[]⟩:ByteArray),([]:List (S25)),false)))
theorem spec_GetTerm.mono:∀ a0 k,LeO (spec_GetTerm.f k a0) (spec_GetTerm.f (k + 1) a0):=by
 intro a0 k
 unfold spec_GetTerm.f
 with_reducible repeat' first|apply spec_TermOk.mono|apply spec_l2Get.mono|apply LeO.refl|apply LeO.none|apply LeO.ite|refine LeO.bind ?_ (fun _=>?_)
set_option maxHeartbeats 8000000 in
set_option maxRecDepth 100000 in
theorem spec_GetTerm.calls (k:Nat) (A0:Option Addr) (c0:Nat) (l0:List Int) (r1:Int) (r2:Int) (r3:ByteArray) (r4:List (S25)) (r5:Bool) (w:World) (hr0:Kd.C (Kd.int .u8) w A0 l0.length l0) (hc0:l0.length≤c0) (h:spec_GetTerm.f k l0 = some (r1,r2,r3,r4,r5)) :
  Calls Try.prog 4 #[.slice A0 l0.length c0] w fun e w'=>∃ v3_:Value,e = .returned (.tuple #[.agg #[.int .i64 r1,.int .i64 r2,.string r3,v3_],.bool r5])∧Kd.R k25 25 w' w.heap.size (fun _=>True) v3_ r4∧Below w.heap.size w w':=by
 have hu25:=Try.underlying25;have HR0:=Aside0.mk hr0;have HC0:=Aside0.mk hc0;clear hr0 hc0;have HB:=Aside0.mk (Below.refl w.heap.size w);have H:((spec_l2Get.f k l0 0 8).bind fun bt154=>(if bt154.2.2.2.2.2 = true then (if bt154.2.2.2.2.1 = (l0.length:Int) then ((spec_TermOk.f k bt154.1 bt154.2.1 bt154.2.2.1 bt154.2.2.2.1).bind fun t163=>(if t163 = true then (some (bt154.1,bt154.2.1,bt154.2.2.1,bt154.2.2.2.1,true)) else (some (0,0,(⟨#[]⟩:ByteArray),([]:List (S25)),false)))) else (some (0,0,(⟨#[]⟩:ByteArray),([]:List (S25)),false))) else (some (0,0,(⟨#[]⟩:ByteArray),([]:List (S25)),false)))) = some (r1,r2,r3,r4,r5):=h;clear h;replace H:=Option.bind_eq_some_iff.mp H;obtain ⟨⟨t154,t155,t156,t157,t160,t161⟩,A20,H⟩:=H;replace H:(if t161 = true then (if t160 = (l0.length:Int) then ((spec_TermOk.f k t154 t155 t156 t157).bind fun t163=>(if t163 = true then (some (t154,t155,t156,t157,true)) else (some (0,0,(⟨#[]⟩:ByteArray),([]:List (S25)),false)))) else (some (0,0,(⟨#[]⟩:ByteArray),([]:List (S25)),false))) else (some (0,0,(⟨#[]⟩:ByteArray),([]:List (S25)),false))) = some (r1,r2,r3,r4,r5):=H;have A2:=Aside0.mk A20;clear A20
 by_cases c3:t161 = true
 ·subst c3
  have H1:(if t160 = (l0.length:Int) then ((spec_TermOk.f k t154 t155 t156 t157).bind fun t163=>(if t163 = true then (some (t154,t155,t156,t157,true)) else (some (0,0,(⟨#[]⟩:ByteArray),([]:List (S25)),false)))) else (some (0,0,(⟨#[]⟩:ByteArray),([]:List (S25)),false))) = some (r1,r2,r3,r4,r5):=by rw [if_pos rfl] at H;exact H
  clear H;have H:=H1;clear H1
  by_cases c4:t160 = (l0.length:Int)
  ·rw [if_pos c4] at H
   have c4b0:(t160 == (l0.length:Int)) = true:=beq_iff_eq.mpr c4;have c4b1:(t160 != (l0.length:Int)) = false:=bne_eq_false_iff_eq.mpr c4;clear c4;replace H:=Option.bind_eq_some_iff.mp H;obtain ⟨t163,A50,H⟩:=H;replace H:(if t163 = true then (some (t154,t155,t156,t157,true)) else (some (0,0,(⟨#[]⟩:ByteArray),([]:List (S25)),false))) = some (r1,r2,r3,r4,r5):=H;have A5:=Aside0.mk A50;clear A50
   by_cases c6:t163 = true
   ·subst c6
    have H1:(some (t154,t155,t156,t157,true)) = some (r1,r2,r3,r4,r5):=by rw [if_pos rfl] at H;exact H
    clear H;have H:=H1;clear H1;simp only [Option.some.injEq,Prod.mk.injEq] at H;obtain ⟨rfl,rfl,rfl,rfl,rfl⟩:=H
    go_enter Try.func4,Try.ntmps4
    go_wp2_with (first|((with_reducible refine gate_dst (N:=2) rfl ?_);(try (refine gate_guard (by rfl) ?_;dsimp only));refine box_event ?hg (N:=2) ?hd (cs:=#[.int .i64 0,.int .i64 0,.string (⟨#[]⟩:ByteArray),.slice none 0 0]) (t:=25) ?hr ?_;(case hd=>rfl);(case hg=>rfl);(case hr=>first|(go_simp;done)|(go_simp;rfl));intro gb153 hg w7 hbox hb;have n_:=ai (bq HB hb) <| ai (Aside0.mk (hbox)) <| ai (bz hg HB) <| bz hg HB;clear HB;obtain ⟨HB,BK153,GW153,GE153⟩:=n_;clear hb hbox hg)|((with_reducible refine gate_callee (f:=12) rfl ?_);refine goesL_ (some 9) rfl rfl Try.func12 (by kernel_rfl) rfl #[.slice A0 l0.length c0,.int .i64 0,.int .i64 8] rfl gs ?_;(with_reducible refine (spec_l2Get.calls k _ _ l0 0 8 t154 t155 t156 t157 t160 true _ ?side1 ?side2 A2.out).mono ?_);(case side1=>exact ck (Kd.C_below HR0.out HB.out));(case side2=>exact HC0.out);rintro e w8 ⟨v158,rfl,ho0,hb⟩;refine ⟨_,rfl,?_⟩;have n_:=ai (Aside0.mk (Kd.R_lower (Kd.R_newB ho0 (g:=gb153) (o:=.cells #[.int .i64 0,.int .i64 0,.string (⟨#[]⟩:ByteArray),.slice none 0 0] 25 (0,0)) (bk BK153.out)) (below_size (bl HB.out)))) <| ai (bw BK153 hb) <| bq HB hb;clear BK153 HB;obtain ⟨HO159,BK153,HB⟩:=n_;(try clear hb);(try clear ho0))|((with_reducible refine gate_dst (N:=4) rfl ?_);(try (refine gate_guard (by rfl) ?_;dsimp only));refine box_event ?hg (N:=4) ?hd (cs:=#[.int .i64 0,.int .i64 0,.string (⟨#[]⟩:ByteArray),.slice none 0 0]) (t:=25) ?hr ?_;(case hd=>rfl);(case hg=>rfl);(case hr=>first|(go_simp;done)|(go_simp;rfl));intro gb162 hg w9 hbox hb;have n_:=ai (rbm HO159 hg hb) <| ai (bw BK153 hb) <| ai (bq HB hb) <| ai (Aside0.mk (hbox)) <| ai (bz hg HB) <| ai (bz hg HB) <| ai (nl hg BK153) <| ng hg BK153;clear HO159 BK153 HB;obtain ⟨HO159,BK153,HB,BK162,GW162,GE162,NB153_162,NB162_153⟩:=n_;clear hb hbox hg;have:=NB162_153.out;have:=NB153_162.out;obtain ⟨h11_0,h11_1,h11_2,h11_3⟩:=kb4 BK162.out;obtain ⟨z11_0,z11_1,z11_2,z11_3⟩:=kz4 BK162.out;obtain ⟨Ao12,co12,eo12⟩:=Kd.R_slice HO159.out;subst eo12)|(go_at_call 13;(with_reducible refine (spec_TermOk.calls k t154 t155 t156 _ _ t157 true _ ?side1 ?side2 A5.out).mono ?_);(case side1=>refine (Kd.R_reads' (e:=25) (base:=w.heap.size) (ok:=fun k_=>((True∧k_≠gb153)∧k_≠gb162)) (n:=t157.length) (c:=co12) ?_).2.2;exact (by (with_reducible repeat (first|apply Kd.R_alloc|apply Kd.R_drewN|apply Kd.R_drew));exact (Kd.R_mono (rfm (Kd.R_mono HO159.out (fun k_ hk=>(⟨hk,hk.2⟩:_∧k_≠gb162)))) (fun _ h_=>h_.1))));(case side2=>exact (Kd.R_reads' HO159.out).2.1);rintro e w13 ⟨rfl,hb⟩;have n_:=ai (Aside0.mk (Kd.R_below (by (with_reducible repeat (first|apply Kd.R_alloc|apply Kd.R_drewN|apply Kd.R_drew));exact (Kd.R_mono (rfm (Kd.R_mono HO159.out (fun k_ hk=>(⟨hk,hk.2⟩:_∧k_≠gb162)))) (fun _ h_=>h_.1))) hb)) <| ai (bwm BK153 hb) <| ai (Aside0.mk (blk_below (g:=gb162) (o:=.cells #[.int .i64 t154,.int .i64 t155,.string t156,.slice Ao12 t157.length co12] 25 (0,0)) (bmp BK162.out) hb)) <| bq HB hb;clear HO159 BK153 BK162 HB;obtain ⟨HO159,BK153,BK162,HB⟩:=n_;(try clear hb);(try clear hb2);(try clear hk);(try clear hi);obtain ⟨h14_0,h14_1,h14_2,h14_3⟩:=kb4 BK162.out;obtain ⟨z14_0,z14_1,z14_2,z14_3⟩:=kz4 BK162.out;obtain ⟨h15_0,h15_1,h15_2,h15_3⟩:=kb4 BK153.out;obtain ⟨z15_0,z15_1,z15_2,z15_3⟩:=kz4 BK153.out))
    refine bodyPost_ret (results_ct rfl _ _ gb153 25 #[.int .i64 t154,.int .i64 t155,.string t156,.slice Ao12 t157.length co12] (0,0) _ rfl (bmp BK153.out) Try.underlying25 rfl (by kernel_rfl)) rfl ?_
    exact ⟨_,cl,by (with_reducible repeat (first|apply Kd.R_alloc|apply Kd.R_drewN|apply Kd.R_drew));exact Kd.R_mono (rfm (Kd.R_mono HO159.out (fun k_ hk=>(⟨hk,hk.1.2⟩:_∧k_≠gb153)))) (fun _ hk=>trivial),bl HB.out⟩
   ·replace c6:=Bool.eq_false_iff.mpr c6
    subst c6;have H1:(some (0,0,(⟨#[]⟩:ByteArray),([]:List (S25)),false)) = some (r1,r2,r3,r4,r5):=by rw [if_neg (show ¬ (false = true) by decide)] at H;exact H
    clear H;have H:=H1;clear H1;simp only [Option.some.injEq,Prod.mk.injEq] at H;obtain ⟨rfl,rfl,rfl,rfl,rfl⟩:=H
    go_enter Try.func4,Try.ntmps4
    go_wp2_with (first|((with_reducible refine gate_dst (N:=2) rfl ?_);(try (refine gate_guard (by rfl) ?_;dsimp only));refine box_event ?hg (N:=2) ?hd (cs:=#[.int .i64 0,.int .i64 0,.string (⟨#[]⟩:ByteArray),.slice none 0 0]) (t:=25) ?hr ?_;(case hd=>rfl);(case hg=>rfl);(case hr=>first|(go_simp;done)|(go_simp;rfl));intro gb153 hg w16 hbox hb;have n_:=ai (bq HB hb) <| ai (Aside0.mk (hbox)) <| ai (bz hg HB) <| bz hg HB;clear HB;obtain ⟨HB,BK153,GW153,GE153⟩:=n_;clear hb hbox hg)|((with_reducible refine gate_callee (f:=12) rfl ?_);refine goesL_ (some 9) rfl rfl Try.func12 (by kernel_rfl) rfl #[.slice A0 l0.length c0,.int .i64 0,.int .i64 8] rfl gs ?_;(with_reducible refine (spec_l2Get.calls k _ _ l0 0 8 t154 t155 t156 t157 t160 true _ ?side1 ?side2 A2.out).mono ?_);(case side1=>exact ck (Kd.C_below HR0.out HB.out));(case side2=>exact HC0.out);rintro e w17 ⟨v158,rfl,ho0,hb⟩;refine ⟨_,rfl,?_⟩;have n_:=ai (Aside0.mk (Kd.R_lower (Kd.R_newB ho0 (g:=gb153) (o:=.cells #[.int .i64 0,.int .i64 0,.string (⟨#[]⟩:ByteArray),.slice none 0 0] 25 (0,0)) (bk BK153.out)) (below_size (bl HB.out)))) <| ai (bw BK153 hb) <| bq HB hb;clear BK153 HB;obtain ⟨HO159,BK153,HB⟩:=n_;(try clear hb);(try clear ho0))|((with_reducible refine gate_dst (N:=4) rfl ?_);(try (refine gate_guard (by rfl) ?_;dsimp only));refine box_event ?hg (N:=4) ?hd (cs:=#[.int .i64 0,.int .i64 0,.string (⟨#[]⟩:ByteArray),.slice none 0 0]) (t:=25) ?hr ?_;(case hd=>rfl);(case hg=>rfl);(case hr=>first|(go_simp;done)|(go_simp;rfl));intro gb162 hg w18 hbox hb;have n_:=ai (rbm HO159 hg hb) <| ai (bw BK153 hb) <| ai (bq HB hb) <| ai (Aside0.mk (hbox)) <| ai (bz hg HB) <| ai (bz hg HB) <| ai (nl hg BK153) <| ng hg BK153;clear HO159 BK153 HB;obtain ⟨HO159,BK153,HB,BK162,GW162,GE162,NB153_162,NB162_153⟩:=n_;clear hb hbox hg;have:=NB162_153.out;have:=NB153_162.out;obtain ⟨h20_0,h20_1,h20_2,h20_3⟩:=kb4 BK162.out;obtain ⟨z20_0,z20_1,z20_2,z20_3⟩:=kz4 BK162.out;obtain ⟨Ao21,co21,eo21⟩:=Kd.R_slice HO159.out;subst eo21)|(go_at_call 13;(with_reducible refine (spec_TermOk.calls k t154 t155 t156 _ _ t157 false _ ?side1 ?side2 A5.out).mono ?_);(case side1=>refine (Kd.R_reads' (e:=25) (base:=w.heap.size) (ok:=fun k_=>((True∧k_≠gb153)∧k_≠gb162)) (n:=t157.length) (c:=co21) ?_).2.2;exact (by (with_reducible repeat (first|apply Kd.R_alloc|apply Kd.R_drewN|apply Kd.R_drew));exact (Kd.R_mono (rfm (Kd.R_mono HO159.out (fun k_ hk=>(⟨hk,hk.2⟩:_∧k_≠gb162)))) (fun _ h_=>h_.1))));(case side2=>exact (Kd.R_reads' HO159.out).2.1);rintro e w22 ⟨rfl,hb⟩;have n_:=ai (Aside0.mk (Kd.R_below (by (with_reducible repeat (first|apply Kd.R_alloc|apply Kd.R_drewN|apply Kd.R_drew));exact (Kd.R_mono (rfm (Kd.R_mono HO159.out (fun k_ hk=>(⟨hk,hk.2⟩:_∧k_≠gb162)))) (fun _ h_=>h_.1))) hb)) <| ai (bwm BK153 hb) <| ai (Aside0.mk (blk_below (g:=gb162) (o:=.cells #[.int .i64 t154,.int .i64 t155,.string t156,.slice Ao21 t157.length co21] 25 (0,0)) (bmp BK162.out) hb)) <| bq HB hb;clear HO159 BK153 BK162 HB;obtain ⟨HO159,BK153,BK162,HB⟩:=n_;(try clear hb);(try clear hb2);(try clear hk);(try clear hi);obtain ⟨h23_0,h23_1,h23_2,h23_3⟩:=kb4 BK153.out;obtain ⟨z23_0,z23_1,z23_2,z23_3⟩:=kz4 BK153.out))
    refine bodyPost_ret (results_ct rfl _ _ gb153 25 #[.int .i64 0,.int .i64 0,.string (⟨#[]⟩:ByteArray),.slice none 0 0] (0,0) _ rfl (bmp BK153.out) Try.underlying25 rfl (by kernel_rfl)) rfl ?_
    exact ⟨_,cl,by first|exact Kd.R_nil _ _ _ _ _|exact Kd.N_nil _ _ _ _ _|exact Kd.V_nil _ _ _ _ _|exact Kd.Q_nil _ _ _ _ _|exact Kd.S_nil _ _ _ _ _,bl HB.out⟩
  ·rw [if_neg c4] at H
   have c4b0:(t160 == (l0.length:Int)) = false:=beq_eq_false_iff_ne.mpr c4;have c4b1:(t160 != (l0.length:Int)) = true:=bne_iff_ne.mpr c4;simp only [Option.some.injEq,Prod.mk.injEq] at H;obtain ⟨rfl,rfl,rfl,rfl,rfl⟩:=H
   go_enter Try.func4,Try.ntmps4
   go_wp2_with (first|((with_reducible refine gate_dst (N:=2) rfl ?_);(try (refine gate_guard (by rfl) ?_;dsimp only));refine box_event ?hg (N:=2) ?hd (cs:=#[.int .i64 0,.int .i64 0,.string (⟨#[]⟩:ByteArray),.slice none 0 0]) (t:=25) ?hr ?_;(case hd=>rfl);(case hg=>rfl);(case hr=>first|(go_simp;done)|(go_simp;rfl));intro gb153 hg w24 hbox hb;have n_:=ai (bq HB hb) <| ai (Aside0.mk (hbox)) <| ai (bz hg HB) <| bz hg HB;clear HB;obtain ⟨HB,BK153,GW153,GE153⟩:=n_;clear hb hbox hg)|((with_reducible refine gate_callee (f:=12) rfl ?_);refine goesL_ (some 9) rfl rfl Try.func12 (by kernel_rfl) rfl #[.slice A0 l0.length c0,.int .i64 0,.int .i64 8] rfl gs ?_;(with_reducible refine (spec_l2Get.calls k _ _ l0 0 8 t154 t155 t156 t157 t160 true _ ?side1 ?side2 A2.out).mono ?_);(case side1=>exact ck (Kd.C_below HR0.out HB.out));(case side2=>exact HC0.out);rintro e w25 ⟨v158,rfl,ho0,hb⟩;refine ⟨_,rfl,?_⟩;have n_:=ai (Aside0.mk (Kd.R_lower (Kd.R_newB ho0 (g:=gb153) (o:=.cells #[.int .i64 0,.int .i64 0,.string (⟨#[]⟩:ByteArray),.slice none 0 0] 25 (0,0)) (bk BK153.out)) (below_size (bl HB.out)))) <| ai (bw BK153 hb) <| bq HB hb;clear BK153 HB;obtain ⟨HO159,BK153,HB⟩:=n_;(try clear hb);(try clear ho0))|((with_reducible refine gate_dst (N:=4) rfl ?_);(try (refine gate_guard (by rfl) ?_;dsimp only));refine box_event ?hg (N:=4) ?hd (cs:=#[.int .i64 0,.int .i64 0,.string (⟨#[]⟩:ByteArray),.slice none 0 0]) (t:=25) ?hr ?_;(case hd=>rfl);(case hg=>rfl);(case hr=>first|(go_simp;done)|(go_simp;rfl));intro gb162 hg w26 hbox hb;have n_:=ai (rbm HO159 hg hb) <| ai (bw BK153 hb) <| ai (bq HB hb) <| ai (Aside0.mk (hbox)) <| ai (bz hg HB) <| ai (bz hg HB) <| ai (nl hg BK153) <| ng hg BK153;clear HO159 BK153 HB;obtain ⟨HO159,BK153,HB,BK162,GW162,GE162,NB153_162,NB162_153⟩:=n_;clear hb hbox hg;have:=NB162_153.out;have:=NB153_162.out;obtain ⟨h28_0,h28_1,h28_2,h28_3⟩:=kb4 BK162.out;obtain ⟨z28_0,z28_1,z28_2,z28_3⟩:=kz4 BK162.out;obtain ⟨Ao29,co29,eo29⟩:=Kd.R_slice HO159.out;subst eo29;obtain ⟨h30_0,h30_1,h30_2,h30_3⟩:=kb4 BK153.out;obtain ⟨z30_0,z30_1,z30_2,z30_3⟩:=kz4 BK153.out))
   refine bodyPost_ret (results_ct rfl _ _ gb153 25 #[.int .i64 0,.int .i64 0,.string (⟨#[]⟩:ByteArray),.slice none 0 0] (0,0) _ rfl (bmp BK153.out) Try.underlying25 rfl (by kernel_rfl)) rfl ?_
   exact ⟨_,cl,by first|exact Kd.R_nil _ _ _ _ _|exact Kd.N_nil _ _ _ _ _|exact Kd.V_nil _ _ _ _ _|exact Kd.Q_nil _ _ _ _ _|exact Kd.S_nil _ _ _ _ _,bl HB.out⟩
 ·replace c3:=Bool.eq_false_iff.mpr c3
  subst c3;have H1:(some (0,0,(⟨#[]⟩:ByteArray),([]:List (S25)),false)) = some (r1,r2,r3,r4,r5):=by rw [if_neg (show ¬ (false = true) by decide)] at H;exact H
  clear H;have H:=H1;clear H1;simp only [Option.some.injEq,Prod.mk.injEq] at H;obtain ⟨rfl,rfl,rfl,rfl,rfl⟩:=H
  go_enter Try.func4,Try.ntmps4
  go_wp2_with (first|((with_reducible refine gate_dst (N:=2) rfl ?_);(try (refine gate_guard (by rfl) ?_;dsimp only));refine box_event ?hg (N:=2) ?hd (cs:=#[.int .i64 0,.int .i64 0,.string (⟨#[]⟩:ByteArray),.slice none 0 0]) (t:=25) ?hr ?_;(case hd=>rfl);(case hg=>rfl);(case hr=>first|(go_simp;done)|(go_simp;rfl));intro gb153 hg w31 hbox hb;have n_:=ai (bq HB hb) <| ai (Aside0.mk (hbox)) <| ai (bz hg HB) <| bz hg HB;clear HB;obtain ⟨HB,BK153,GW153,GE153⟩:=n_;clear hb hbox hg)|((with_reducible refine gate_callee (f:=12) rfl ?_);refine goesL_ (some 9) rfl rfl Try.func12 (by kernel_rfl) rfl #[.slice A0 l0.length c0,.int .i64 0,.int .i64 8] rfl gs ?_;(with_reducible refine (spec_l2Get.calls k _ _ l0 0 8 t154 t155 t156 t157 t160 false _ ?side1 ?side2 A2.out).mono ?_);(case side1=>exact ck (Kd.C_below HR0.out HB.out));(case side2=>exact HC0.out);rintro e w32 ⟨v158,rfl,ho0,hb⟩;refine ⟨_,rfl,?_⟩;have n_:=ai (Aside0.mk (Kd.R_lower (Kd.R_newB ho0 (g:=gb153) (o:=.cells #[.int .i64 0,.int .i64 0,.string (⟨#[]⟩:ByteArray),.slice none 0 0] 25 (0,0)) (bk BK153.out)) (below_size (bl HB.out)))) <| ai (bw BK153 hb) <| bq HB hb;clear BK153 HB;obtain ⟨HO159,BK153,HB⟩:=n_;(try clear hb);(try clear ho0))|((with_reducible refine gate_dst (N:=4) rfl ?_);(try (refine gate_guard (by rfl) ?_;dsimp only));refine box_event ?hg (N:=4) ?hd (cs:=#[.int .i64 0,.int .i64 0,.string (⟨#[]⟩:ByteArray),.slice none 0 0]) (t:=25) ?hr ?_;(case hd=>rfl);(case hg=>rfl);(case hr=>first|(go_simp;done)|(go_simp;rfl));intro gb162 hg w33 hbox hb;have n_:=ai (rbm HO159 hg hb) <| ai (bw BK153 hb) <| ai (bq HB hb) <| ai (Aside0.mk (hbox)) <| ai (bz hg HB) <| ai (bz hg HB) <| ai (nl hg BK153) <| ng hg BK153;clear HO159 BK153 HB;obtain ⟨HO159,BK153,HB,BK162,GW162,GE162,NB153_162,NB162_153⟩:=n_;clear hb hbox hg;have:=NB162_153.out;have:=NB153_162.out;obtain ⟨h35_0,h35_1,h35_2,h35_3⟩:=kb4 BK162.out;obtain ⟨z35_0,z35_1,z35_2,z35_3⟩:=kz4 BK162.out;obtain ⟨Ao36,co36,eo36⟩:=Kd.R_slice HO159.out;subst eo36;obtain ⟨h37_0,h37_1,h37_2,h37_3⟩:=kb4 BK153.out;obtain ⟨z37_0,z37_1,z37_2,z37_3⟩:=kz4 BK153.out))
  refine bodyPost_ret (results_ct rfl _ _ gb153 25 #[.int .i64 0,.int .i64 0,.string (⟨#[]⟩:ByteArray),.slice none 0 0] (0,0) _ rfl (bmp BK153.out) Try.underlying25 rfl (by kernel_rfl)) rfl ?_
  exact ⟨_,cl,by first|exact Kd.R_nil _ _ _ _ _|exact Kd.N_nil _ _ _ _ _|exact Kd.V_nil _ _ _ _ _|exact Kd.Q_nil _ _ _ _ _|exact Kd.S_nil _ _ _ _ _,bl HB.out⟩

end Go.Proofs.Ytefkjmkmojmllaa.QFnExactGetTerm
