-- Written by a program of this workplace (print2.py) for this claim, over the print's words.
import Derived.Test.YtghhbdmjafedbaaQFnExactCodeOkx0
import Derived.Test.YtghhbdmjafedbaaQFnExactCodeOkx1
namespace Go.Proofs.Ytghhbdmjafedbaa.QFnExactCodeOk
open Go.RowKit Go.Proofs.YtghhbdmjafedbaaW.PrintWords Go.Proofs.YtghhbdmjafedbaaW.PrintLast Go.Proofs.YtghhbdmjafedbaaW.PrintMore
attribute [local go_sem] max2_int min2_int max_two min_two max_three min_three max_four min_four   -- for this text's walks alone
set_option linter.unusedVariables false
set_option linter.unusedSimpArgs false

/-! ### spec_l4Reserved: function 37 -/
def spec_l4Reserved.f (a0:ByteArray):Option (Bool):=if a0.toList = ([99,97,115,101]:List UInt8) then (some true) else (if a0.toList = ([111,102]:List UInt8) then (some true) else (some (a0.toList == ([101,110,100]:List UInt8))))
set_option maxHeartbeats 8000000 in
set_option maxRecDepth 100000 in
theorem spec_l4Reserved.calls (a0:ByteArray) (r:Bool) (w:World) (h:spec_l4Reserved.f a0 = some r) :
  Calls Try.prog 37 #[.string a0] w fun e w'=>e = .returned (.bool r)∧Drawn0 w w':=by
 have H:(if a0.toList = ([99,97,115,101]:List UInt8) then (some true) else (if a0.toList = ([111,102]:List UInt8) then (some true) else (some (a0.toList == ([101,110,100]:List UInt8))))) = some r:=h;clear h
 by_cases c2:a0.toList = ([99,97,115,101]:List UInt8)
 ·rw [if_pos c2] at H
  have c2b0:(a0.toList == ([99,97,115,101]:List UInt8)) = true:=beq_iff_eq.mpr c2;have c2b1:(a0.toList != ([99,97,115,101]:List UInt8)) = false:=bne_eq_false_iff_eq.mpr c2;clear c2;obtain rfl:=Option.some.inj H
  go_enter Try.func37,Try.ntmps37
  go_wp2
  go_ret
  exact ⟨cl2,by repeat (first|exact Drawn0.refl _|apply Drawn0.step)⟩
 ·rw [if_neg c2] at H
  have c2b0:(a0.toList == ([99,97,115,101]:List UInt8)) = false:=beq_eq_false_iff_ne.mpr c2;have c2b1:(a0.toList != ([99,97,115,101]:List UInt8)) = true:=bne_iff_ne.mpr c2
  by_cases c3:a0.toList = ([111,102]:List UInt8)
  ·rw [if_pos c3] at H
   have c3b0:(a0.toList == ([111,102]:List UInt8)) = true:=beq_iff_eq.mpr c3;have c3b1:(a0.toList != ([111,102]:List UInt8)) = false:=bne_eq_false_iff_eq.mpr c3;clear c3;obtain rfl:=Option.some.inj H
   go_enter Try.func37,Try.ntmps37
   go_wp2
   go_ret
   exact ⟨cl2,by repeat (first|exact Drawn0.refl _|apply Drawn0.step)⟩
  ·rw [if_neg c3] at H
   have c3b0:(a0.toList == ([111,102]:List UInt8)) = false:=beq_eq_false_iff_ne.mpr c3;have c3b1:(a0.toList != ([111,102]:List UInt8)) = true:=bne_iff_ne.mpr c3;obtain rfl:=Option.some.inj H
   go_enter Try.func37,Try.ntmps37
   go_wp2
   go_ret
   exact ⟨cl2,by repeat (first|exact Drawn0.refl _|apply Drawn0.step)⟩

/-! ### spec_l4Atom: function 20 -/
def spec_l4Atom.f (k:Nat) (a0:ByteArray):Option (Bool):=(spec_AtomOk.f k a0).bind fun t118=>(if t118 = true then ((spec_l4Reserved.f a0).bind fun t119=>(some (!t119))) else (some false))
theorem spec_l4Atom.mono:∀ a0 k,LeO (spec_l4Atom.f k a0) (spec_l4Atom.f (k + 1) a0):=by
 intro a0 k
 unfold spec_l4Atom.f
 with_reducible repeat' first|apply spec_AtomOk.mono|apply LeO.refl|apply LeO.none|apply LeO.ite|refine LeO.bind ?_ (fun _=>?_)
set_option maxHeartbeats 8000000 in
set_option maxRecDepth 100000 in
theorem spec_l4Atom.calls (k:Nat) (a0:ByteArray) (r:Bool) (w:World) (h:spec_l4Atom.f k a0 = some r) :
  Calls Try.prog 20 #[.string a0] w fun e w'=>e = .returned (.bool r)∧Drawn0 w w':=by
 have H:((spec_AtomOk.f k a0).bind fun t118=>(if t118 = true then ((spec_l4Reserved.f a0).bind fun t119=>(some (!t119))) else (some false))) = some r:=h;clear h;replace H:=Option.bind_eq_some_iff.mp H;obtain ⟨t118,A20,H⟩:=H;replace H:(if t118 = true then ((spec_l4Reserved.f a0).bind fun t119=>(some (!t119))) else (some false)) = some r:=H;have A2:=Aside0.mk A20;clear A20
 by_cases c3:t118 = true
 ·subst c3
  have H1:((spec_l4Reserved.f a0).bind fun t119=>(some (!t119))) = some r:=by rw [if_pos rfl] at H;exact H
  clear H;have H:=H1;clear H1;replace H:=Option.bind_eq_some_iff.mp H;obtain ⟨t119,A40,H⟩:=H;replace H:(some (!t119)) = some r:=H;have A4:=Aside0.mk A40;clear A40;obtain rfl:=Option.some.inj H
  go_enter Try.func20,Try.ntmps20
  go_wp2_with (first|((with_reducible refine gate_callee (f:=36) rfl ?_);refine goesL_ (some 4) rfl rfl Try.func36 (by kernel_rfl) rfl #[.string a0] rfl gs ?_;(with_reducible refine (spec_AtomOk.calls k a0 true _ A2.out).mono ?_);rintro e w' ⟨rfl,⟨nd,rfl⟩⟩;refine ⟨_,rfl,?_⟩)|(go_at_call 37;(with_reducible refine (spec_l4Reserved.calls a0 t119 _ A4.out).mono ?_);rintro e w' ⟨rfl,⟨nd,rfl⟩⟩))
  go_ret
  exact ⟨cl2,by repeat (first|exact Drawn0.refl _|apply Drawn0.step)⟩
 ·replace c3:=Bool.eq_false_iff.mpr c3
  subst c3;have H1:(some false) = some r:=by rw [if_neg (show ¬ (false = true) by decide)] at H;exact H
  clear H;have H:=H1;clear H1;obtain rfl:=Option.some.inj H
  go_enter Try.func20,Try.ntmps20
  go_wp2_with (first|((with_reducible refine gate_callee (f:=36) rfl ?_);refine goesL_ (some 4) rfl rfl Try.func36 (by kernel_rfl) rfl #[.string a0] rfl gs ?_;(with_reducible refine (spec_AtomOk.calls k a0 false _ A2.out).mono ?_);rintro e w' ⟨rfl,⟨nd,rfl⟩⟩;refine ⟨_,rfl,?_⟩))
  go_ret
  exact ⟨cl2,by repeat (first|exact Drawn0.refl _|apply Drawn0.step)⟩

/-! ### spec_l9FnAt: function 21 -/
def spec_l9FnAt.l0:Nat → ByteArray → Int → List (S44) → List (S67) → Option (Int)
 | 0,_,_,_,_=>none
 | k + 1,x1,x5,x121000,x121001=>if x5 < (x121000.length:Int) then (if 0≤x5 then (if ((rd_T44 x121000 x5).f0).toList = x1.toList then (some x5) else (spec_l9FnAt.l0 k x1 (wrap64 (x5 + 1)) x121000 x121001)) else (none)) else (some (-1))
def spec_l9FnAt.f (k:Nat) (l0_0:List (S44)) (l0_1:List (S67)) (a1:ByteArray):Option (Int):=spec_l9FnAt.l0 k a1 0 l0_0 l0_1
theorem spec_l9FnAt.mono_l:∀ k,(∀ y0 y1 y2 y3,LeO (spec_l9FnAt.l0 k y0 y1 y2 y3) (spec_l9FnAt.l0 (k + 1) y0 y1 y2 y3))
 | 0=>fun _ _ _ _ r h=>by simp [spec_l9FnAt.l0] at h
 | k + 1=>by
  have ih0:=spec_l9FnAt.mono_l k
  ·intro y0 y1 y2 y3
   unfold spec_l9FnAt.l0
   with_reducible repeat' first|apply ih0|apply LeO.refl|apply LeO.none|apply LeO.ite|refine LeO.bind ?_ (fun _=>?_)
theorem spec_l9FnAt.mono:∀ a0 a1 a2 k,LeO (spec_l9FnAt.f k a0 a1 a2) (spec_l9FnAt.f (k + 1) a0 a1 a2):=by
 intro a0 a1 a2 k;have ih0:=spec_l9FnAt.mono_l k
 unfold spec_l9FnAt.f
 with_reducible repeat' first|apply ih0|apply LeO.refl|apply LeO.none|apply LeO.ite|refine LeO.bind ?_ (fun _=>?_)
set_option maxHeartbeats 8000000 in
set_option maxRecDepth 100000 in
theorem spec_l9FnAt.calls (k:Nat) (A0_0:Option Addr) (c0_0:Nat) (l0_0:List (S44)) (A0_1:Option Addr) (c0_1:Nat) (l0_1:List (S67)) (a1:ByteArray) (r:Int) (w:World) (hr0_0:Kd.C k44 w A0_0 l0_0.length l0_0) (hc0_0:l0_0.length≤c0_0) (hr0_1:Kd.C k67 w A0_1 l0_1.length l0_1) (hc0_1:l0_1.length≤c0_1) (h:spec_l9FnAt.f k l0_0 l0_1 a1 = some r) :
  Calls Try.prog 21 #[.agg #[.slice A0_0 l0_0.length c0_0,.slice A0_1 l0_1.length c0_1],.string a1] w fun e w'=>e = .returned (.int .i64 r)∧Below w.heap.size w w':=by
 have hu31:=Try.underlying31;have HR0_0:=Aside0.mk hr0_0;have HC0_0:=Aside0.mk hc0_0;clear hr0_0 hc0_0;have HR0_1:=Aside0.mk hr0_1;have HC0_1:=Aside0.mk hc0_1;clear hr0_1 hc0_1;have HB:=Aside0.mk (Below.refl w.heap.size w);have H:(spec_l9FnAt.l0 k a1 0 l0_0 l0_1) = some r:=h;clear h;have H':=Aside0.mk H;clear H
 go_enter Try.func21,Try.ntmps21
 go_wp2_with (first|((with_reducible refine gate_dst (N:=2) rfl ?_);refine box_event ?hg (N:=2) ?hd (cs:=#[.slice A0_0 l0_0.length c0_0,.slice A0_1 l0_1.length c0_1]) (t:=31) ?hr ?_;(case hd=>rfl);(case hg=>rfl);(case hr=>first|(go_simp;done)|(go_simp;rfl));intro gb120 hg w3 hbox hb;have n_:=ai (bq HB hb) <| ai (Aside0.mk (hbox)) <| ai (bz hg HB) <| bz hg HB;clear HB;obtain ⟨HB,BK120,GW120,GE120⟩:=n_;clear hb hbox hg))
 go_loopg [5] k (fun kq v5 w'=>∃ (x5_1:Int),v5 = .int .i64 x5_1∧Aside0 (spec_l9FnAt.l0 kq a1 x5_1 l0_0 l0_1 = some r)∧Aside0 (kq≤k)∧Aside0 (w'.heap[gb120]? = some (.cells #[(.slice A0_0 l0_0.length c0_0),(.slice A0_1 l0_1.length c0_1)] 31 (0,0)))∧Aside0 (Below w.heap.size w w'))
 case atStart=>exact ⟨(0),(cl2),H',⟨Nat.le_refl _⟩,⟨bk BK120.out⟩,⟨bl HB.out⟩⟩
 case round =>
  clear H';(try clear c2);(try clear p2);(try clear BK120);(try clear HB);obtain ⟨x5_1,rfl,HA,HK1,BK120,HB⟩:=hrel
  cases gk with
  | zero=>exact absurd HA.out (by simp [spec_l9FnAt.l0])
  | succ k1 =>
   have H:=HA.out;clear HA;simp only [spec_l9FnAt.l0] at H
   by_cases c4:x5_1 < (l0_0.length:Int)
   ·rw [if_pos c4] at H
    have c4b0:decide (x5_1 < (l0_0.length:Int)) = true:=decide_eq_true c4;clear c4
    by_cases c5:0≤x5_1
    ·rw [if_pos c5] at H
     have c5b0:decide (0≤x5_1) = true:=decide_eq_true c5;clear c5
     by_cases c6:((rd_T44 l0_0 x5_1).f0).toList = a1.toList
     ·rw [if_pos c6] at H
      have c6b0:(((rd_T44 l0_0 x5_1).f0).toList == a1.toList) = true:=beq_iff_eq.mpr c6;have c6b1:(((rd_T44 l0_0 x5_1).f0).toList != a1.toList) = false:=bne_eq_false_iff_eq.mpr c6;clear c6;obtain rfl:=Option.some.inj H;obtain ⟨hcz7_0,hcz7_1⟩:=kb2 BK120.out;have p121:0≤(x5_1:Int):=od;have q121:x5_1 < (l0_0.length:Int):=od;obtain ⟨ad121,A121_3,c121_3,e121,hx121_0,hx121_1,hx121_2,hx121_3,hl121_3,hi121_3⟩:=at_T44 HR0_0.out x5_1 p121 q121;cases e121;replace hx121_0:=cb HB hx121_0;replace hx121_1:=cb HB hx121_1;replace hx121_2:=cb HB hx121_2;replace hx121_3:=cb HB hx121_3;have HR121_3:=Aside0.mk hi121_3;have HC121_3:=Aside0.mk hl121_3;clear hi121_3 hl121_3;replace p121:=eq_true p121;replace q121:=eq_true q121
      go_wp2
      go_ret
      exact ⟨cl,bl HB.out⟩
     ·rw [if_neg c6] at H
      have c6b0:(((rd_T44 l0_0 x5_1).f0).toList == a1.toList) = false:=beq_eq_false_iff_ne.mpr c6;have c6b1:(((rd_T44 l0_0 x5_1).f0).toList != a1.toList) = true:=bne_iff_ne.mpr c6;have H':=Aside0.mk H;clear H;obtain ⟨hcz8_0,hcz8_1⟩:=kb2 BK120.out;have p121:0≤(x5_1:Int):=od;have q121:x5_1 < (l0_0.length:Int):=od;obtain ⟨ad121,A121_3,c121_3,e121,hx121_0,hx121_1,hx121_2,hx121_3,hl121_3,hi121_3⟩:=at_T44 HR0_0.out x5_1 p121 q121;cases e121;replace hx121_0:=cb HB hx121_0;replace hx121_1:=cb HB hx121_1;replace hx121_2:=cb HB hx121_2;replace hx121_3:=cb HB hx121_3;have HR121_3:=Aside0.mk hi121_3;have HC121_3:=Aside0.mk hl121_3;clear hi121_3 hl121_3;replace p121:=eq_true p121;replace q121:=eq_true q121
      go_wp2
      go_roundg k1
      case measure=>have:=HK1.out;omega
      case rel=>exact ⟨(wrap64 (x5_1 + 1)),(cl2),H',⟨by have:=HK1.out;omega⟩,⟨bk BK120.out⟩,⟨bl HB.out⟩⟩
    ·rw [if_neg c5] at H
     exact absurd H (by simp)
   ·rw [if_neg c4] at H
    have c4b0:decide (x5_1 < (l0_0.length:Int)) = false:=decide_eq_false c4;clear c4;obtain rfl:=Option.some.inj H;obtain ⟨hcz9_0,hcz9_1⟩:=kb2 BK120.out
    go_wp2
    go_ret
    exact ⟨cl,bl HB.out⟩

/-! ### spec_l4Op: function 38 -/
def spec_l4Op.f (a0:ByteArray):Option (Bool):=if a0.toList = ([43]:List UInt8) then (some true) else (if a0.toList = ([45]:List UInt8) then (some true) else (if a0.toList = ([42]:List UInt8) then (some true) else (if a0.toList = ([61,61]:List UInt8) then (some true) else (some (a0.toList == ([60]:List UInt8))))))
set_option maxHeartbeats 8000000 in
set_option maxRecDepth 100000 in
theorem spec_l4Op.calls (a0:ByteArray) (r:Bool) (w:World) (h:spec_l4Op.f a0 = some r) :
  Calls Try.prog 38 #[.string a0] w fun e w'=>e = .returned (.bool r)∧Drawn0 w w':=by
 have H:(if a0.toList = ([43]:List UInt8) then (some true) else (if a0.toList = ([45]:List UInt8) then (some true) else (if a0.toList = ([42]:List UInt8) then (some true) else (if a0.toList = ([61,61]:List UInt8) then (some true) else (some (a0.toList == ([60]:List UInt8))))))) = some r:=h;clear h
 by_cases c2:a0.toList = ([43]:List UInt8)
 ·rw [if_pos c2] at H
  have c2b0:(a0.toList == ([43]:List UInt8)) = true:=beq_iff_eq.mpr c2;have c2b1:(a0.toList != ([43]:List UInt8)) = false:=bne_eq_false_iff_eq.mpr c2;clear c2;obtain rfl:=Option.some.inj H
  go_enter Try.func38,Try.ntmps38
  go_wp2
  go_ret
  exact ⟨cl2,by repeat (first|exact Drawn0.refl _|apply Drawn0.step)⟩
 ·rw [if_neg c2] at H
  have c2b0:(a0.toList == ([43]:List UInt8)) = false:=beq_eq_false_iff_ne.mpr c2;have c2b1:(a0.toList != ([43]:List UInt8)) = true:=bne_iff_ne.mpr c2
  by_cases c3:a0.toList = ([45]:List UInt8)
  ·rw [if_pos c3] at H
   have c3b0:(a0.toList == ([45]:List UInt8)) = true:=beq_iff_eq.mpr c3;have c3b1:(a0.toList != ([45]:List UInt8)) = false:=bne_eq_false_iff_eq.mpr c3;clear c3;obtain rfl:=Option.some.inj H
   go_enter Try.func38,Try.ntmps38
   go_wp2
   go_ret
   exact ⟨cl2,by repeat (first|exact Drawn0.refl _|apply Drawn0.step)⟩
  ·rw [if_neg c3] at H
   have c3b0:(a0.toList == ([45]:List UInt8)) = false:=beq_eq_false_iff_ne.mpr c3;have c3b1:(a0.toList != ([45]:List UInt8)) = true:=bne_iff_ne.mpr c3
   by_cases c4:a0.toList = ([42]:List UInt8)
   ·rw [if_pos c4] at H
    have c4b0:(a0.toList == ([42]:List UInt8)) = true:=beq_iff_eq.mpr c4;have c4b1:(a0.toList != ([42]:List UInt8)) = false:=bne_eq_false_iff_eq.mpr c4;clear c4;obtain rfl:=Option.some.inj H
    go_enter Try.func38,Try.ntmps38
    go_wp2
    go_ret
    exact ⟨cl2,by repeat (first|exact Drawn0.refl _|apply Drawn0.step)⟩
   ·rw [if_neg c4] at H
    have c4b0:(a0.toList == ([42]:List UInt8)) = false:=beq_eq_false_iff_ne.mpr c4;have c4b1:(a0.toList != ([42]:List UInt8)) = true:=bne_iff_ne.mpr c4
    by_cases c5:a0.toList = ([61,61]:List UInt8)
    ·rw [if_pos c5] at H
     have c5b0:(a0.toList == ([61,61]:List UInt8)) = true:=beq_iff_eq.mpr c5;have c5b1:(a0.toList != ([61,61]:List UInt8)) = false:=bne_eq_false_iff_eq.mpr c5;clear c5;obtain rfl:=Option.some.inj H
     go_enter Try.func38,Try.ntmps38
     go_wp2
     go_ret
     exact ⟨cl2,by repeat (first|exact Drawn0.refl _|apply Drawn0.step)⟩
    ·rw [if_neg c5] at H
     have c5b0:(a0.toList == ([61,61]:List UInt8)) = false:=beq_eq_false_iff_ne.mpr c5;have c5b1:(a0.toList != ([61,61]:List UInt8)) = true:=bne_iff_ne.mpr c5;obtain rfl:=Option.some.inj H
     go_enter Try.func38,Try.ntmps38
     go_wp2
     go_ret
     exact ⟨cl2,by repeat (first|exact Drawn0.refl _|apply Drawn0.step)⟩

/-! ### spec_l9Shape: function 58 -/
def spec_l9Shape.j0:Nat → Int → Int → Bool → Int → Int → ByteArray → List (S67) → Option (Bool)
 | 0,_,_,_,_,_,_,_=>none
 | k + 1,x5,x10,x55,x123000,x123001,x123002,x123003=>if x55 = true then (if x123002.toList = ([]:List UInt8) then (if x123001 = 0 then (some (decide (x5≤20))) else (some false)) else (some false)) else (if x10 = 6 then (if x123002.toList = ([]:List UInt8) then (if x123001 = 0 then ((spec_l1In.f x5 2 6).bind fun t126=>(some t126)) else (some false)) else (some false)) else (some false))
def spec_l9Shape.f (k:Nat) (a0_0:Int) (a0_1:Int) (a0_2:ByteArray) (l0_3:List (S67)) (a1:Int):Option (Bool):=if a0_0 = 1 then ((spec_l1In.f a0_1 0 1000000000000).bind fun t123=>(if t123 = true then (if a0_2.toList = ([]:List UInt8) then (some ((l0_3.length:Int) == 0)) else (some false)) else (some false))) else (if a0_0 = 2 then ((spec_l4Atom.f k a0_2).bind fun t124=>(if t124 = true then (if a0_1 = 0 then (some ((l0_3.length:Int) == 0)) else (some false)) else (some false))) else (if a0_0 = 3 then (if a0_2.toList = ([]:List UInt8) then (if (l0_3.length:Int) = 0 then ((spec_l1In.f a0_1 (-1) (wrap64 (a1 - 1))).bind fun t125=>(some t125)) else (some false)) else (some false)) else (if a0_0 = 4 then (spec_l9Shape.j0 k (l0_3.length:Int) a0_0 (a0_0 == 4) a0_0 a0_1 a0_2 l0_3) else (spec_l9Shape.j0 k (l0_3.length:Int) a0_0 (a0_0 == 5) a0_0 a0_1 a0_2 l0_3))))
theorem spec_l9Shape.mono_l:∀ k,(∀ y0 y1 y2 y3 y4 y5 y6,LeO (spec_l9Shape.j0 k y0 y1 y2 y3 y4 y5 y6) (spec_l9Shape.j0 (k + 1) y0 y1 y2 y3 y4 y5 y6))
 | 0=>fun _ _ _ _ _ _ _ r h=>by simp [spec_l9Shape.j0] at h
 | k + 1=>by
  have ih0:=spec_l9Shape.mono_l k
  ·intro y0 y1 y2 y3 y4 y5 y6
   unfold spec_l9Shape.j0
   with_reducible repeat' first|apply ih0|apply spec_l4Atom.mono|apply LeO.refl|apply LeO.none|apply LeO.ite|refine LeO.bind ?_ (fun _=>?_)
theorem spec_l9Shape.mono:∀ a0 a1 a2 a3 a4 k,LeO (spec_l9Shape.f k a0 a1 a2 a3 a4) (spec_l9Shape.f (k + 1) a0 a1 a2 a3 a4):=by
 intro a0 a1 a2 a3 a4 k;have ih0:=spec_l9Shape.mono_l k
 unfold spec_l9Shape.f
 with_reducible repeat' first|apply ih0|apply spec_l4Atom.mono|apply LeO.refl|apply LeO.none|apply LeO.ite|refine LeO.bind ?_ (fun _=>?_)
set_option maxHeartbeats 8000000 in
set_option maxRecDepth 100000 in
theorem spec_l9Shape.calls (k:Nat) (a0_0:Int) (a0_1:Int) (a0_2:ByteArray) (A0_3:Option Addr) (c0_3:Nat) (l0_3:List (S67)) (a1:Int) (r:Bool) (w:World) (hr0_3:Kd.C k67 w A0_3 l0_3.length l0_3) (hc0_3:l0_3.length≤c0_3) (h:spec_l9Shape.f k a0_0 a0_1 a0_2 l0_3 a1 = some r) :
  Calls Try.prog 58 #[.agg #[.int .i64 a0_0,.int .i64 a0_1,.string a0_2,.slice A0_3 l0_3.length c0_3],.int .i64 a1] w fun e w'=>e = .returned (.bool r)∧Below w.heap.size w w':=by
 have hu67:=Try.underlying67;have HR0_3:=Aside0.mk hr0_3;have HC0_3:=Aside0.mk hc0_3;clear hr0_3 hc0_3;have HB:=Aside0.mk (Below.refl w.heap.size w);have H:(if a0_0 = 1 then ((spec_l1In.f a0_1 0 1000000000000).bind fun t123=>(if t123 = true then (if a0_2.toList = ([]:List UInt8) then (some ((l0_3.length:Int) == 0)) else (some false)) else (some false))) else (if a0_0 = 2 then ((spec_l4Atom.f k a0_2).bind fun t124=>(if t124 = true then (if a0_1 = 0 then (some ((l0_3.length:Int) == 0)) else (some false)) else (some false))) else (if a0_0 = 3 then (if a0_2.toList = ([]:List UInt8) then (if (l0_3.length:Int) = 0 then ((spec_l1In.f a0_1 (-1) (wrap64 (a1 - 1))).bind fun t125=>(some t125)) else (some false)) else (some false)) else (if a0_0 = 4 then (spec_l9Shape.j0 k (l0_3.length:Int) a0_0 (a0_0 == 4) a0_0 a0_1 a0_2 l0_3) else (spec_l9Shape.j0 k (l0_3.length:Int) a0_0 (a0_0 == 5) a0_0 a0_1 a0_2 l0_3))))) = some r:=h;clear h
 by_cases c3:a0_0 = 1
 ·rw [if_pos c3] at H
  have c3b0:(a0_0 == 1) = true:=beq_iff_eq.mpr c3;have c3b1:(a0_0 != 1) = false:=bne_eq_false_iff_eq.mpr c3;clear c3;replace H:=Option.bind_eq_some_iff.mp H;obtain ⟨t123,A40,H⟩:=H;replace H:(if t123 = true then (if a0_2.toList = ([]:List UInt8) then (some ((l0_3.length:Int) == 0)) else (some false)) else (some false)) = some r:=H;have A4:=Aside0.mk A40;clear A40
  by_cases c5:t123 = true
  ·subst c5
   have H1:(if a0_2.toList = ([]:List UInt8) then (some ((l0_3.length:Int) == 0)) else (some false)) = some r:=by rw [if_pos rfl] at H;exact H
   clear H;have H:=H1;clear H1
   by_cases c6:a0_2.toList = ([]:List UInt8)
   ·rw [if_pos c6] at H
    have c6b0:(a0_2.toList == ([]:List UInt8)) = true:=beq_iff_eq.mpr c6;have c6b1:(a0_2.toList != ([]:List UInt8)) = false:=bne_eq_false_iff_eq.mpr c6;clear c6;obtain rfl:=Option.some.inj H
    go_enter Try.func58,Try.ntmps58
    go_wp2_with (first|((with_reducible refine gate_dst (N:=2) rfl ?_);refine box_event ?hg (N:=2) ?hd (cs:=#[.int .i64 a0_0,.int .i64 a0_1,.string a0_2,.slice A0_3 l0_3.length c0_3]) (t:=67) ?hr ?_;(case hd=>rfl);(case hg=>rfl);(case hr=>first|(go_simp;done)|(go_simp;rfl));intro gb122 hg w7 hbox hb;have n_:=ai (bq HB hb) <| ai (Aside0.mk (hbox)) <| ai (bz hg HB) <| bz hg HB;clear HB;obtain ⟨HB,BK122,GW122,GE122⟩:=n_;clear hb hbox hg;obtain ⟨hcz8_0,hcz8_1,hcz8_2,hcz8_3⟩:=kb4 BK122.out;obtain ⟨hfz8_0,hfz8_1,hfz8_2,hfz8_3⟩:=kz4 BK122.out)|((with_reducible refine gate_callee (f:=22) rfl ?_);refine goesL_ (some 15) rfl rfl Try.func22 (by kernel_rfl) rfl #[.int .i64 a0_1,.int .i64 0,.int .i64 1000000000000] rfl gs ?_;(with_reducible refine (spec_l1In.calls a0_1 0 1000000000000 true _ A4.out).mono ?_);rintro e w' ⟨rfl,⟨nd,rfl⟩⟩;refine ⟨_,rfl,?_⟩))
    go_ret
    exact ⟨cl,bl HB.out⟩
   ·rw [if_neg c6] at H
    have c6b0:(a0_2.toList == ([]:List UInt8)) = false:=beq_eq_false_iff_ne.mpr c6;have c6b1:(a0_2.toList != ([]:List UInt8)) = true:=bne_iff_ne.mpr c6;obtain rfl:=Option.some.inj H
    go_enter Try.func58,Try.ntmps58
    go_wp2_with (first|((with_reducible refine gate_dst (N:=2) rfl ?_);refine box_event ?hg (N:=2) ?hd (cs:=#[.int .i64 a0_0,.int .i64 a0_1,.string a0_2,.slice A0_3 l0_3.length c0_3]) (t:=67) ?hr ?_;(case hd=>rfl);(case hg=>rfl);(case hr=>first|(go_simp;done)|(go_simp;rfl));intro gb122 hg w9 hbox hb;have n_:=ai (bq HB hb) <| ai (Aside0.mk (hbox)) <| ai (bz hg HB) <| bz hg HB;clear HB;obtain ⟨HB,BK122,GW122,GE122⟩:=n_;clear hb hbox hg;obtain ⟨hcz10_0,hcz10_1,hcz10_2,hcz10_3⟩:=kb4 BK122.out;obtain ⟨hfz10_0,hfz10_1,hfz10_2,hfz10_3⟩:=kz4 BK122.out)|((with_reducible refine gate_callee (f:=22) rfl ?_);refine goesL_ (some 15) rfl rfl Try.func22 (by kernel_rfl) rfl #[.int .i64 a0_1,.int .i64 0,.int .i64 1000000000000] rfl gs ?_;(with_reducible refine (spec_l1In.calls a0_1 0 1000000000000 true _ A4.out).mono ?_);rintro e w' ⟨rfl,⟨nd,rfl⟩⟩;refine ⟨_,rfl,?_⟩))
    go_ret
    exact ⟨cl,bl HB.out⟩
  ·replace c5:=Bool.eq_false_iff.mpr c5
   subst c5;have H1:(some false) = some r:=by rw [if_neg (show ¬ (false = true) by decide)] at H;exact H
   clear H;have H:=H1;clear H1;obtain rfl:=Option.some.inj H
   go_enter Try.func58,Try.ntmps58
   go_wp2_with (first|((with_reducible refine gate_dst (N:=2) rfl ?_);refine box_event ?hg (N:=2) ?hd (cs:=#[.int .i64 a0_0,.int .i64 a0_1,.string a0_2,.slice A0_3 l0_3.length c0_3]) (t:=67) ?hr ?_;(case hd=>rfl);(case hg=>rfl);(case hr=>first|(go_simp;done)|(go_simp;rfl));intro gb122 hg w11 hbox hb;have n_:=ai (bq HB hb) <| ai (Aside0.mk (hbox)) <| ai (bz hg HB) <| bz hg HB;clear HB;obtain ⟨HB,BK122,GW122,GE122⟩:=n_;clear hb hbox hg;obtain ⟨hcz12_0,hcz12_1,hcz12_2,hcz12_3⟩:=kb4 BK122.out;obtain ⟨hfz12_0,hfz12_1,hfz12_2,hfz12_3⟩:=kz4 BK122.out)|((with_reducible refine gate_callee (f:=22) rfl ?_);refine goesL_ (some 15) rfl rfl Try.func22 (by kernel_rfl) rfl #[.int .i64 a0_1,.int .i64 0,.int .i64 1000000000000] rfl gs ?_;(with_reducible refine (spec_l1In.calls a0_1 0 1000000000000 false _ A4.out).mono ?_);rintro e w' ⟨rfl,⟨nd,rfl⟩⟩;refine ⟨_,rfl,?_⟩))
   go_ret
   exact ⟨cl,bl HB.out⟩
 ·rw [if_neg c3] at H
  have c3b0:(a0_0 == 1) = false:=beq_eq_false_iff_ne.mpr c3;have c3b1:(a0_0 != 1) = true:=bne_iff_ne.mpr c3
  by_cases c13:a0_0 = 2
  ·rw [if_pos c13] at H
   have c13b0:(a0_0 == 2) = true:=beq_iff_eq.mpr c13;have c13b1:(a0_0 != 2) = false:=bne_eq_false_iff_eq.mpr c13;clear c13;replace H:=Option.bind_eq_some_iff.mp H;obtain ⟨t124,A140,H⟩:=H;replace H:(if t124 = true then (if a0_1 = 0 then (some ((l0_3.length:Int) == 0)) else (some false)) else (some false)) = some r:=H;have A14:=Aside0.mk A140;clear A140
   by_cases c15:t124 = true
   ·subst c15
    have H1:(if a0_1 = 0 then (some ((l0_3.length:Int) == 0)) else (some false)) = some r:=by rw [if_pos rfl] at H;exact H
    clear H;have H:=H1;clear H1
    by_cases c16:a0_1 = 0
    ·rw [if_pos c16] at H
     have c16b0:(a0_1 == 0) = true:=beq_iff_eq.mpr c16;have c16b1:(a0_1 != 0) = false:=bne_eq_false_iff_eq.mpr c16;clear c16;obtain rfl:=Option.some.inj H
     go_enter Try.func58,Try.ntmps58
     go_wp2_with (first|((with_reducible refine gate_dst (N:=2) rfl ?_);refine box_event ?hg (N:=2) ?hd (cs:=#[.int .i64 a0_0,.int .i64 a0_1,.string a0_2,.slice A0_3 l0_3.length c0_3]) (t:=67) ?hr ?_;(case hd=>rfl);(case hg=>rfl);(case hr=>first|(go_simp;done)|(go_simp;rfl));intro gb122 hg w17 hbox hb;have n_:=ai (bq HB hb) <| ai (Aside0.mk (hbox)) <| ai (bz hg HB) <| bz hg HB;clear HB;obtain ⟨HB,BK122,GW122,GE122⟩:=n_;clear hb hbox hg;obtain ⟨hcz18_0,hcz18_1,hcz18_2,hcz18_3⟩:=kb4 BK122.out;obtain ⟨hfz18_0,hfz18_1,hfz18_2,hfz18_3⟩:=kz4 BK122.out)|((with_reducible refine gate_callee (f:=20) rfl ?_);refine goesL_ (some 29) rfl rfl Try.func20 (by kernel_rfl) rfl #[.string a0_2] rfl gs ?_;(with_reducible refine (spec_l4Atom.calls k a0_2 true _ A14.out).mono ?_);rintro e w' ⟨rfl,⟨nd,rfl⟩⟩;refine ⟨_,rfl,?_⟩))
     go_ret
     exact ⟨cl,bl HB.out⟩
    ·rw [if_neg c16] at H
     have c16b0:(a0_1 == 0) = false:=beq_eq_false_iff_ne.mpr c16;have c16b1:(a0_1 != 0) = true:=bne_iff_ne.mpr c16;obtain rfl:=Option.some.inj H
     go_enter Try.func58,Try.ntmps58
     go_wp2_with (first|((with_reducible refine gate_dst (N:=2) rfl ?_);refine box_event ?hg (N:=2) ?hd (cs:=#[.int .i64 a0_0,.int .i64 a0_1,.string a0_2,.slice A0_3 l0_3.length c0_3]) (t:=67) ?hr ?_;(case hd=>rfl);(case hg=>rfl);(case hr=>first|(go_simp;done)|(go_simp;rfl));intro gb122 hg w19 hbox hb;have n_:=ai (bq HB hb) <| ai (Aside0.mk (hbox)) <| ai (bz hg HB) <| bz hg HB;clear HB;obtain ⟨HB,BK122,GW122,GE122⟩:=n_;clear hb hbox hg;obtain ⟨hcz20_0,hcz20_1,hcz20_2,hcz20_3⟩:=kb4 BK122.out;obtain ⟨hfz20_0,hfz20_1,hfz20_2,hfz20_3⟩:=kz4 BK122.out)|((with_reducible refine gate_callee (f:=20) rfl ?_);refine goesL_ (some 29) rfl rfl Try.func20 (by kernel_rfl) rfl #[.string a0_2] rfl gs ?_;(with_reducible refine (spec_l4Atom.calls k a0_2 true _ A14.out).mono ?_);rintro e w' ⟨rfl,⟨nd,rfl⟩⟩;refine ⟨_,rfl,?_⟩))
     go_ret
     exact ⟨cl,bl HB.out⟩
   ·replace c15:=Bool.eq_false_iff.mpr c15
    subst c15;have H1:(some false) = some r:=by rw [if_neg (show ¬ (false = true) by decide)] at H;exact H
    clear H;have H:=H1;clear H1;obtain rfl:=Option.some.inj H
    go_enter Try.func58,Try.ntmps58
    go_wp2_with (first|((with_reducible refine gate_dst (N:=2) rfl ?_);refine box_event ?hg (N:=2) ?hd (cs:=#[.int .i64 a0_0,.int .i64 a0_1,.string a0_2,.slice A0_3 l0_3.length c0_3]) (t:=67) ?hr ?_;(case hd=>rfl);(case hg=>rfl);(case hr=>first|(go_simp;done)|(go_simp;rfl));intro gb122 hg w21 hbox hb;have n_:=ai (bq HB hb) <| ai (Aside0.mk (hbox)) <| ai (bz hg HB) <| bz hg HB;clear HB;obtain ⟨HB,BK122,GW122,GE122⟩:=n_;clear hb hbox hg;obtain ⟨hcz22_0,hcz22_1,hcz22_2,hcz22_3⟩:=kb4 BK122.out;obtain ⟨hfz22_0,hfz22_1,hfz22_2,hfz22_3⟩:=kz4 BK122.out)|((with_reducible refine gate_callee (f:=20) rfl ?_);refine goesL_ (some 29) rfl rfl Try.func20 (by kernel_rfl) rfl #[.string a0_2] rfl gs ?_;(with_reducible refine (spec_l4Atom.calls k a0_2 false _ A14.out).mono ?_);rintro e w' ⟨rfl,⟨nd,rfl⟩⟩;refine ⟨_,rfl,?_⟩))
    go_ret
    exact ⟨cl,bl HB.out⟩
  ·rw [if_neg c13] at H
   have c13b0:(a0_0 == 2) = false:=beq_eq_false_iff_ne.mpr c13;have c13b1:(a0_0 != 2) = true:=bne_iff_ne.mpr c13
   by_cases c23:a0_0 = 3
   ·rw [if_pos c23] at H
    have c23b0:(a0_0 == 3) = true:=beq_iff_eq.mpr c23;have c23b1:(a0_0 != 3) = false:=bne_eq_false_iff_eq.mpr c23;clear c23
    by_cases c24:a0_2.toList = ([]:List UInt8)
    ·rw [if_pos c24] at H
     have c24b0:(a0_2.toList == ([]:List UInt8)) = true:=beq_iff_eq.mpr c24;have c24b1:(a0_2.toList != ([]:List UInt8)) = false:=bne_eq_false_iff_eq.mpr c24;clear c24
     by_cases c25:(l0_3.length:Int) = 0
     ·rw [if_pos c25] at H
      have c25b0:((l0_3.length:Int) == 0) = true:=beq_iff_eq.mpr c25;have c25b1:((l0_3.length:Int) != 0) = false:=bne_eq_false_iff_eq.mpr c25;clear c25;replace H:=Option.bind_eq_some_iff.mp H;obtain ⟨t125,A260,H⟩:=H;replace H:(some t125) = some r:=H;have A26:=Aside0.mk A260;clear A260;obtain rfl:=Option.some.inj H
      go_enter Try.func58,Try.ntmps58
      go_wp2_with (first|((with_reducible refine gate_dst (N:=2) rfl ?_);refine box_event ?hg (N:=2) ?hd (cs:=#[.int .i64 a0_0,.int .i64 a0_1,.string a0_2,.slice A0_3 l0_3.length c0_3]) (t:=67) ?hr ?_;(case hd=>rfl);(case hg=>rfl);(case hr=>first|(go_simp;done)|(go_simp;rfl));intro gb122 hg w27 hbox hb;have n_:=ai (bq HB hb) <| ai (Aside0.mk (hbox)) <| ai (bz hg HB) <| bz hg HB;clear HB;obtain ⟨HB,BK122,GW122,GE122⟩:=n_;clear hb hbox hg;obtain ⟨hcz28_0,hcz28_1,hcz28_2,hcz28_3⟩:=kb4 BK122.out;obtain ⟨hfz28_0,hfz28_1,hfz28_2,hfz28_3⟩:=kz4 BK122.out)|(go_at_call 22;(with_reducible refine (spec_l1In.calls a0_1 (-1) (wrap64 (a1 - 1)) t125 _ A26.out).mono ?_);rintro e w' ⟨rfl,⟨nd,rfl⟩⟩))
      go_ret
      exact ⟨cl,bl HB.out⟩
     ·rw [if_neg c25] at H
      have c25b0:((l0_3.length:Int) == 0) = false:=beq_eq_false_iff_ne.mpr c25;have c25b1:((l0_3.length:Int) != 0) = true:=bne_iff_ne.mpr c25;have c25b2 : ¬ (l0_3 = []):=fun h_=>c25 (by rw [h_];rfl)
      obtain rfl:=Option.some.inj H
      go_enter Try.func58,Try.ntmps58
      go_wp2_with (first|((with_reducible refine gate_dst (N:=2) rfl ?_);refine box_event ?hg (N:=2) ?hd (cs:=#[.int .i64 a0_0,.int .i64 a0_1,.string a0_2,.slice A0_3 l0_3.length c0_3]) (t:=67) ?hr ?_;(case hd=>rfl);(case hg=>rfl);(case hr=>first|(go_simp;done)|(go_simp;rfl));intro gb122 hg w29 hbox hb;have n_:=ai (bq HB hb) <| ai (Aside0.mk (hbox)) <| ai (bz hg HB) <| bz hg HB;clear HB;obtain ⟨HB,BK122,GW122,GE122⟩:=n_;clear hb hbox hg;obtain ⟨hcz30_0,hcz30_1,hcz30_2,hcz30_3⟩:=kb4 BK122.out;obtain ⟨hfz30_0,hfz30_1,hfz30_2,hfz30_3⟩:=kz4 BK122.out))
      go_ret
      exact ⟨cl,bl HB.out⟩
    ·rw [if_neg c24] at H
     have c24b0:(a0_2.toList == ([]:List UInt8)) = false:=beq_eq_false_iff_ne.mpr c24;have c24b1:(a0_2.toList != ([]:List UInt8)) = true:=bne_iff_ne.mpr c24;obtain rfl:=Option.some.inj H
     go_enter Try.func58,Try.ntmps58
     go_wp2_with (first|((with_reducible refine gate_dst (N:=2) rfl ?_);refine box_event ?hg (N:=2) ?hd (cs:=#[.int .i64 a0_0,.int .i64 a0_1,.string a0_2,.slice A0_3 l0_3.length c0_3]) (t:=67) ?hr ?_;(case hd=>rfl);(case hg=>rfl);(case hr=>first|(go_simp;done)|(go_simp;rfl));intro gb122 hg w31 hbox hb;have n_:=ai (bq HB hb) <| ai (Aside0.mk (hbox)) <| ai (bz hg HB) <| bz hg HB;clear HB;obtain ⟨HB,BK122,GW122,GE122⟩:=n_;clear hb hbox hg;obtain ⟨hcz32_0,hcz32_1,hcz32_2,hcz32_3⟩:=kb4 BK122.out;obtain ⟨hfz32_0,hfz32_1,hfz32_2,hfz32_3⟩:=kz4 BK122.out))
     go_ret
     exact ⟨cl,bl HB.out⟩
   ·rw [if_neg c23] at H
    have c23b0:(a0_0 == 3) = false:=beq_eq_false_iff_ne.mpr c23;have c23b1:(a0_0 != 3) = true:=bne_iff_ne.mpr c23;have HC33:=Aside0.mk H;clear H
    go_enter Try.func58,Try.ntmps58
    go_upto_if 55 with (first|((with_reducible refine gate_dst (N:=2) rfl ?_);refine box_event ?hg (N:=2) ?hd (cs:=#[.int .i64 a0_0,.int .i64 a0_1,.string a0_2,.slice A0_3 l0_3.length c0_3]) (t:=67) ?hr ?_;(case hd=>rfl);(case hg=>rfl);(case hr=>first|(go_simp;done)|(go_simp;rfl));intro gb122 hg w34 hbox hb;have n_:=ai (bq HB hb) <| ai (Aside0.mk (hbox)) <| ai (bz hg HB) <| bz hg HB;clear HB;obtain ⟨HB,BK122,GW122,GE122⟩:=n_;clear hb hbox hg;obtain ⟨hcz35_0,hcz35_1,hcz35_2,hcz35_3⟩:=kb4 BK122.out;obtain ⟨hfz35_0,hfz35_1,hfz35_2,hfz35_3⟩:=kz4 BK122.out))
    (try simp only [Act.put,List.setIfInBounds_toArray,List.set_cons_zero,List.set_cons_succ])
    go_cut [55] (fun v55 wc=>∃ (kq:Nat) (x55_32:Bool),v55 = .bool x55_32∧Aside0 (spec_l9Shape.j0 kq (l0_3.length:Int) a0_0 x55_32 a0_0 a0_1 a0_2 l0_3 = some r)∧Aside0 (kq≤k)∧Aside0 (wc.heap[gb122]? = some (.cells #[.int .i64 a0_0,.int .i64 a0_1,.string a0_2,(.slice A0_3 l0_3.length c0_3)] 67 (0,0)))∧Aside0 (Below w.heap.size w wc))
    case first =>
     have H:=HC33.out;clear HC33
     by_cases c36:a0_0 = 4
     ·rw [if_pos c36] at H
      have c36b0:(a0_0 == 4) = true:=beq_iff_eq.mpr c36;have c36b1:(a0_0 != 4) = false:=bne_eq_false_iff_eq.mpr c36;clear c36
      (first|rw [c36b0]|(simp only [i64_w,i32_w];rw [c36b0])|(simp only [c36b2,Bool.not_true,Bool.not_false])|skip)
      have H':=Aside0.mk H;clear H
      go_wp2
      go_meet
      case rel=>exact ⟨_,((a0_0 == 4)),(cl2),H',⟨by first|omega|exact Nat.le_refl _⟩,⟨bk BK122.out⟩,⟨bl HB.out⟩⟩
     ·rw [if_neg c36] at H
      have c36b0:(a0_0 == 4) = false:=beq_eq_false_iff_ne.mpr c36;have c36b1:(a0_0 != 4) = true:=bne_iff_ne.mpr c36
      (first|rw [c36b0]|(simp only [i64_w,i32_w];rw [c36b0])|(simp only [c36b2,Bool.not_true,Bool.not_false])|skip)
      have H':=Aside0.mk H;clear H
      go_wp2
      go_meet
      case rel=>exact ⟨_,((a0_0 == 5)),(cl2),H',⟨by first|omega|exact Nat.le_refl _⟩,⟨bk BK122.out⟩,⟨bl HB.out⟩⟩
    case rest =>
     clear HC33;(try clear c1);(try clear c2);(try clear p2);(try clear c3);(try clear c3b0);(try clear c3b1);(try clear c5);(try clear c6);(try clear c6b0);(try clear c6b1);(try clear p6);(try clear c13);(try clear c13b0);(try clear c13b1);(try clear c15);(try clear c16);(try clear c16b0);(try clear c16b1);(try clear c20);(try clear c22);(try clear c23);(try clear c23b0);(try clear c23b1);(try clear c24);(try clear c24b0);(try clear c24b1);(try clear c25);(try clear c25b0);(try clear c25b1);(try clear c25b2);(try clear c36);(try clear c36b0);(try clear c36b1);(try clear c36b2);(try clear hcz10_0);(try clear hcz10_1);(try clear hcz10_2);(try clear hcz10_3);(try clear hcz12_0);(try clear hcz12_1);(try clear hcz12_2);(try clear hcz12_3);(try clear hcz18_0);(try clear hcz18_1);(try clear hcz18_2);(try clear hcz18_3);(try clear hcz20_0);(try clear hcz20_1);(try clear hcz20_2);(try clear hcz20_3);(try clear hcz22_0);(try clear hcz22_1);(try clear hcz22_2);(try clear hcz22_3);(try clear hcz28_0);(try clear hcz28_1);(try clear hcz28_2);(try clear hcz28_3);(try clear hcz30_0);(try clear hcz30_1);(try clear hcz30_2);(try clear hcz30_3);(try clear hcz32_0);(try clear hcz32_1);(try clear hcz32_2);(try clear hcz32_3);(try clear hcz35_0);(try clear hcz35_1);(try clear hcz35_2);(try clear hcz35_3);(try clear hcz8_0);(try clear hcz8_1);(try clear hcz8_2);(try clear hcz8_3);(try clear hfz10_0);(try clear hfz10_1);(try clear hfz10_2);(try clear hfz10_3);(try clear hfz12_0);(try clear hfz12_1);(try clear hfz12_2);(try clear hfz12_3);(try clear hfz18_0);(try clear hfz18_1);(try clear hfz18_2);(try clear hfz18_3);(try clear hfz20_0);(try clear hfz20_1);(try clear hfz20_2);(try clear hfz20_3);(try clear hfz22_0);(try clear hfz22_1);(try clear hfz22_2);(try clear hfz22_3);(try clear hfz28_0);(try clear hfz28_1);(try clear hfz28_2);(try clear hfz28_3);(try clear hfz30_0);(try clear hfz30_1);(try clear hfz30_2);(try clear hfz30_3);(try clear hfz32_0);(try clear hfz32_1);(try clear hfz32_2);(try clear hfz32_3);(try clear hfz35_0);(try clear hfz35_1);(try clear hfz35_2);(try clear hfz35_3);(try clear hfz8_0);(try clear hfz8_1);(try clear hfz8_2);(try clear hfz8_3);(try clear BK122);(try clear HB);obtain ⟨kq,x55_32,rfl,HA,HJ32,BK122,HB⟩:=hcut
     cases kq with
     | zero=>exact absurd HA.out (by simp [spec_l9Shape.j0])
     | succ kj32 =>
      have H:=HA.out;clear HA;simp only [spec_l9Shape.j0] at H
      by_cases c37:x55_32 = true
      ·subst c37
       have H1:(if a0_2.toList = ([]:List UInt8) then (if a0_1 = 0 then (some (decide ((l0_3.length:Int)≤20))) else (some false)) else (some false)) = some r:=by rw [if_pos rfl] at H;exact H
       clear H;have H:=H1;clear H1
       by_cases c38:a0_2.toList = ([]:List UInt8)
       ·rw [if_pos c38] at H
        have c38b0:(a0_2.toList == ([]:List UInt8)) = true:=beq_iff_eq.mpr c38;have c38b1:(a0_2.toList != ([]:List UInt8)) = false:=bne_eq_false_iff_eq.mpr c38;clear c38
        by_cases c39:a0_1 = 0
        ·rw [if_pos c39] at H
         have c39b0:(a0_1 == 0) = true:=beq_iff_eq.mpr c39;have c39b1:(a0_1 != 0) = false:=bne_eq_false_iff_eq.mpr c39;clear c39;obtain rfl:=Option.some.inj H;obtain ⟨hcz40_0,hcz40_1,hcz40_2,hcz40_3⟩:=kb4 BK122.out
         go_wp2
         go_ret
         exact ⟨cl,bl HB.out⟩
        ·rw [if_neg c39] at H
         have c39b0:(a0_1 == 0) = false:=beq_eq_false_iff_ne.mpr c39;have c39b1:(a0_1 != 0) = true:=bne_iff_ne.mpr c39;obtain rfl:=Option.some.inj H;obtain ⟨hcz41_0,hcz41_1,hcz41_2,hcz41_3⟩:=kb4 BK122.out
         go_wp2
         go_ret
         exact ⟨cl,bl HB.out⟩
       ·rw [if_neg c38] at H
        have c38b0:(a0_2.toList == ([]:List UInt8)) = false:=beq_eq_false_iff_ne.mpr c38;have c38b1:(a0_2.toList != ([]:List UInt8)) = true:=bne_iff_ne.mpr c38;obtain rfl:=Option.some.inj H;obtain ⟨hcz42_0,hcz42_1,hcz42_2,hcz42_3⟩:=kb4 BK122.out
        go_wp2
        go_ret
        exact ⟨cl,bl HB.out⟩
      ·replace c37:=Bool.eq_false_iff.mpr c37
       subst c37;have H1:(if a0_0 = 6 then (if a0_2.toList = ([]:List UInt8) then (if a0_1 = 0 then ((spec_l1In.f (l0_3.length:Int) 2 6).bind fun t126=>(some t126)) else (some false)) else (some false)) else (some false)) = some r:=by rw [if_neg (show ¬ (false = true) by decide)] at H;exact H
       clear H;have H:=H1;clear H1
       by_cases c43:a0_0 = 6
       ·rw [if_pos c43] at H
        have c43b0:(a0_0 == 6) = true:=beq_iff_eq.mpr c43;have c43b1:(a0_0 != 6) = false:=bne_eq_false_iff_eq.mpr c43;clear c43
        by_cases c44:a0_2.toList = ([]:List UInt8)
        ·rw [if_pos c44] at H
         have c44b0:(a0_2.toList == ([]:List UInt8)) = true:=beq_iff_eq.mpr c44;have c44b1:(a0_2.toList != ([]:List UInt8)) = false:=bne_eq_false_iff_eq.mpr c44;clear c44
         by_cases c45:a0_1 = 0
         ·rw [if_pos c45] at H
          have c45b0:(a0_1 == 0) = true:=beq_iff_eq.mpr c45;have c45b1:(a0_1 != 0) = false:=bne_eq_false_iff_eq.mpr c45;clear c45;replace H:=Option.bind_eq_some_iff.mp H;obtain ⟨t126,A460,H⟩:=H;replace H:(some t126) = some r:=H;have A46:=Aside0.mk A460;clear A460;obtain rfl:=Option.some.inj H;obtain ⟨hcz47_0,hcz47_1,hcz47_2,hcz47_3⟩:=kb4 BK122.out
          go_wp2_with (first|(go_at_call 22;(with_reducible refine (spec_l1In.calls (l0_3.length:Int) 2 6 t126 _ A46.out).mono ?_);rintro e w' ⟨rfl,⟨nd,rfl⟩⟩))
          go_ret
          exact ⟨cl,bl HB.out⟩
         ·rw [if_neg c45] at H
          have c45b0:(a0_1 == 0) = false:=beq_eq_false_iff_ne.mpr c45;have c45b1:(a0_1 != 0) = true:=bne_iff_ne.mpr c45;obtain rfl:=Option.some.inj H;obtain ⟨hcz48_0,hcz48_1,hcz48_2,hcz48_3⟩:=kb4 BK122.out
          go_wp2
          go_ret
          exact ⟨cl,bl HB.out⟩
        ·rw [if_neg c44] at H
         have c44b0:(a0_2.toList == ([]:List UInt8)) = false:=beq_eq_false_iff_ne.mpr c44;have c44b1:(a0_2.toList != ([]:List UInt8)) = true:=bne_iff_ne.mpr c44;obtain rfl:=Option.some.inj H;obtain ⟨hcz49_0,hcz49_1,hcz49_2,hcz49_3⟩:=kb4 BK122.out
         go_wp2
         go_ret
         exact ⟨cl,bl HB.out⟩
       ·rw [if_neg c43] at H
        have c43b0:(a0_0 == 6) = false:=beq_eq_false_iff_ne.mpr c43;have c43b1:(a0_0 != 6) = true:=bne_iff_ne.mpr c43;obtain rfl:=Option.some.inj H
        go_wp2
        go_ret
        exact ⟨cl,bl HB.out⟩

end Go.Proofs.Ytghhbdmjafedbaa.QFnExactCodeOk
