-- Written by a program of this workplace (print2.py) for this claim, over the print's words.
import Derived.Test.YtaobcdpadpkngaaQFnPatternsx0
import Derived.Test.YtaobcdpadpkngaaQFnPatternsx9
import Derived.Test.YtaobcdpadpkngaaQFnPatternsx10
namespace Go.Proofs.Ytaobcdpadpkngaa.QFnPatterns
open Go.RowKit Go.Proofs.YtaobcdpadpkngaaW.PrintWords Go.Proofs.YtaobcdpadpkngaaW.PrintLast Go.Proofs.YtaobcdpadpkngaaW.PrintMore
attribute [local go_sem] max2_int min2_int max_two min_two max_three min_three max_four min_four   -- for this text's walks alone
set_option linter.unusedVariables false
set_option linter.unusedSimpArgs false

/-! ### spec_l4Shape: function 23 -/
mutual
def spec_l4Shape.j0:Nat → Bool → Int → Bool → Int → Int → ByteArray → List (S27) → List (S52) → Option (Bool)
 | 0,_,_,_,_,_,_,_,_=>none
 | k + 1,x1,x5,x27,x585000,x585001,x585002,x585003,x585004=>if x27 = true then (some false) else (if x585000 = 1 then ((spec_l1In.f x585001 0 1000000000000).bind fun t585=>(if t585 = true then (if x585002.toList = ([]:List UInt8) then (some (x5 == 0)) else (some false)) else (some false))) else (if x585000 = 2 then ((spec_l4Atom.f k x585002).bind fun t586=>(if t586 = true then (some (x5 == 0)) else (some false))) else (if x585000 = 3 then ((spec_l3VarOk.f k x585002).bind fun t587=>(if t587 = true then (if x5 = 0 then (if x1 = true then (some true) else (some (x585002.toList != ([95]:List UInt8)))) else (some false)) else (some false))) else (if x585000 = 4 then (spec_l4Shape.j1 k x1 x5 x585000 (x585000 == 4) x585000 x585001 x585002 x585003 x585004) else (spec_l4Shape.j1 k x1 x5 x585000 (x585000 == 5) x585000 x585001 x585002 x585003 x585004)))))
def spec_l4Shape.j1:Nat → Bool → Int → Int → Bool → Int → Int → ByteArray → List (S27) → List (S52) → Option (Bool)
 | 0,_,_,_,_,_,_,_,_,_=>none
 | k + 1,x1,x5,x29,x70,x585000,x585001,x585002,x585003,x585004=>if x70 = true then (if x585002.toList = ([]:List UInt8) then (some (decide (x5≤20))) else (some false)) else (if x29 = 6 then (if x585002.toList = ([]:List UInt8) then ((spec_l1In.f x5 2 6).bind fun t588=>(some t588)) else (some false)) else (if x29 = 7 then (if x1 = true then (some false) else ((spec_l4Op.f x585002).bind fun t589=>(if t589 = true then (some (x5 == 2)) else (some false)))) else (if x29 = 8 then (if x1 = true then (some false) else ((spec_l4Atom.f k x585002).bind fun t590=>(if t590 = true then (some (decide (x5≤4))) else (some false)))) else (if x29 = 9 then (if x1 = true then (some false) else (if x585002.toList = ([]:List UInt8) then (if x5 = 1 then ((spec_l1In.f (x585004.length:Int) 1 6).bind fun t591=>(some t591)) else (some false)) else (some false))) else (some false)))))
end
def spec_l4Shape.f (k:Nat) (a0_0:Int) (a0_1:Int) (a0_2:ByteArray) (l0_3:List (S27)) (l0_4:List (S52)) (a1:Bool):Option (Bool):=if a0_0 = 9 then (if a0_0 = 1 then (spec_l4Shape.j0 k a1 (l0_3.length:Int) false a0_0 a0_1 a0_2 l0_3 l0_4) else (spec_l4Shape.j0 k a1 (l0_3.length:Int) (a0_1 != 0) a0_0 a0_1 a0_2 l0_3 l0_4)) else (if (l0_4.length:Int) > 0 then (spec_l4Shape.j0 k a1 (l0_3.length:Int) true a0_0 a0_1 a0_2 l0_3 l0_4) else (if a0_0 = 1 then (spec_l4Shape.j0 k a1 (l0_3.length:Int) false a0_0 a0_1 a0_2 l0_3 l0_4) else (spec_l4Shape.j0 k a1 (l0_3.length:Int) (a0_1 != 0) a0_0 a0_1 a0_2 l0_3 l0_4)))
theorem spec_l4Shape.mono_l:∀ k,(∀ y0 y1 y2 y3 y4 y5 y6 y7,LeO (spec_l4Shape.j0 k y0 y1 y2 y3 y4 y5 y6 y7) (spec_l4Shape.j0 (k + 1) y0 y1 y2 y3 y4 y5 y6 y7))∧(∀ y0 y1 y2 y3 y4 y5 y6 y7 y8,LeO (spec_l4Shape.j1 k y0 y1 y2 y3 y4 y5 y6 y7 y8) (spec_l4Shape.j1 (k + 1) y0 y1 y2 y3 y4 y5 y6 y7 y8))
 | 0=>⟨fun _ _ _ _ _ _ _ _ r h=>by simp [spec_l4Shape.j0] at h,fun _ _ _ _ _ _ _ _ _ r h=>by simp [spec_l4Shape.j1] at h⟩
 | k + 1=>by
  obtain ⟨ih0,ih1⟩:=spec_l4Shape.mono_l k
  refine ⟨?_,?_⟩
  ·intro y0 y1 y2 y3 y4 y5 y6 y7
   unfold spec_l4Shape.j0
   with_reducible repeat' first|apply ih0|apply ih1|apply spec_l3VarOk.mono|apply spec_l4Atom.mono|apply LeO.refl|apply LeO.none|apply LeO.ite|refine LeO.bind ?_ (fun _=>?_)
  ·intro y0 y1 y2 y3 y4 y5 y6 y7 y8
   unfold spec_l4Shape.j1
   with_reducible repeat' first|apply ih0|apply ih1|apply spec_l3VarOk.mono|apply spec_l4Atom.mono|apply LeO.refl|apply LeO.none|apply LeO.ite|refine LeO.bind ?_ (fun _=>?_)
theorem spec_l4Shape.mono:∀ a0 a1 a2 a3 a4 a5 k,LeO (spec_l4Shape.f k a0 a1 a2 a3 a4 a5) (spec_l4Shape.f (k + 1) a0 a1 a2 a3 a4 a5):=by
 intro a0 a1 a2 a3 a4 a5 k;obtain ⟨ih0,ih1⟩:=spec_l4Shape.mono_l k
 unfold spec_l4Shape.f
 with_reducible repeat' first|apply ih0|apply ih1|apply spec_l3VarOk.mono|apply spec_l4Atom.mono|apply LeO.refl|apply LeO.none|apply LeO.ite|refine LeO.bind ?_ (fun _=>?_)
set_option maxHeartbeats 8000000 in
set_option maxRecDepth 100000 in
theorem spec_l4Shape.calls (k:Nat) (a0_0:Int) (a0_1:Int) (a0_2:ByteArray) (A0_3:Option Addr) (c0_3:Nat) (l0_3:List (S27)) (A0_4:Option Addr) (c0_4:Nat) (l0_4:List (S52)) (a1:Bool) (r:Bool) (w:World) (hr0_3:Kd.C k27 w A0_3 l0_3.length l0_3) (hc0_3:l0_3.length≤c0_3) (hr0_4:Kd.C k52 w A0_4 l0_4.length l0_4) (hc0_4:l0_4.length≤c0_4) (h:spec_l4Shape.f k a0_0 a0_1 a0_2 l0_3 l0_4 a1 = some r) :
  Calls Try.prog 23 #[.agg #[.int .i64 a0_0,.int .i64 a0_1,.string a0_2,.slice A0_3 l0_3.length c0_3,.slice A0_4 l0_4.length c0_4],.bool a1] w fun e w'=>e = .returned (.bool r)∧Below w.heap.size w w':=by
 have hu27:=Try.underlying27;have HR0_3:=Aside0.mk hr0_3;have HC0_3:=Aside0.mk hc0_3;clear hr0_3 hc0_3;have HR0_4:=Aside0.mk hr0_4;have HC0_4:=Aside0.mk hc0_4;clear hr0_4 hc0_4;have HB:=Aside0.mk (Below.refl w.heap.size w);have H:(if a0_0 = 9 then (if a0_0 = 1 then (spec_l4Shape.j0 k a1 (l0_3.length:Int) false a0_0 a0_1 a0_2 l0_3 l0_4) else (spec_l4Shape.j0 k a1 (l0_3.length:Int) (a0_1 != 0) a0_0 a0_1 a0_2 l0_3 l0_4)) else (if (l0_4.length:Int) > 0 then (spec_l4Shape.j0 k a1 (l0_3.length:Int) true a0_0 a0_1 a0_2 l0_3 l0_4) else (if a0_0 = 1 then (spec_l4Shape.j0 k a1 (l0_3.length:Int) false a0_0 a0_1 a0_2 l0_3 l0_4) else (spec_l4Shape.j0 k a1 (l0_3.length:Int) (a0_1 != 0) a0_0 a0_1 a0_2 l0_3 l0_4)))) = some r:=h;clear h;have HC3:=Aside0.mk H;clear H
 go_enter Try.func23,Try.ntmps23
 go_upto_region 2 with (first|((with_reducible refine gate_dst (N:=2) rfl ?_);(try (refine gate_guard (by rfl) ?_;dsimp only));refine box_event ?hg (N:=2) ?hd (cs:=#[.int .i64 a0_0,.int .i64 a0_1,.string a0_2,.slice A0_3 l0_3.length c0_3,.slice A0_4 l0_4.length c0_4]) (t:=27) ?hr ?_;(case hd=>rfl);(case hg=>rfl);(case hr=>first|(go_simp;done)|(go_simp;rfl));intro gb584 hg w4 hbox hb;have n_:=ai (bq HB hb) <| aj (hbox) <| ai (bz hg HB) <| bz hg HB;clear HB;obtain ⟨HB,BK584,GW584,GE584⟩:=n_;clear hb hbox hg;obtain ⟨h5_0,h5_1,h5_2,h5_3,h5_4⟩:=kb5 BK584.out;obtain ⟨z5_0,z5_1,z5_2,z5_3,z5_4⟩:=kz5 BK584.out))
 (try simp only [Act.put,List.setIfInBounds_toArray,List.set_cons_zero,List.set_cons_succ])
 go_cut [27] (fun v27 wc=>∃ (kq:Nat) (x27_2:Bool),v27 = .bool x27_2∧Aside0 (spec_l4Shape.j0 kq a1 (l0_3.length:Int) x27_2 a0_0 a0_1 a0_2 l0_3 l0_4 = some r)∧Aside0 (kq≤k)∧Aside0 (wc.heap[gb584]? = some (.cells #[.int .i64 a0_0,.int .i64 a0_1,.string a0_2,(.slice A0_3 l0_3.length c0_3),(.slice A0_4 l0_4.length c0_4)] 27 (0,0)))∧Aside0 (Below w.heap.size w wc))
 case first =>
  have H:=HC3.out;clear HC3
  by_cases c6:a0_0 = 9
  ·rw [if_pos c6] at H
   have c6b0:(a0_0 == 9) = true:=beq_iff_eq.mpr c6;have c6b1:(a0_0 != 9) = false:=bne_eq_false_iff_eq.mpr c6;clear c6
   (first|rw [c6b0]|(simp only [i64_w,i32_w];rw [c6b0])|(simp only [c6b2,Bool.not_true,Bool.not_false])|skip)
   by_cases c7:a0_0 = 1
   ·rw [if_pos c7] at H
    have c7b0:(a0_0 == 1) = true:=beq_iff_eq.mpr c7;have c7b1:(a0_0 != 1) = false:=bne_eq_false_iff_eq.mpr c7;clear c7;have H':=Aside0.mk H;clear H;obtain ⟨h8_0,h8_1,h8_2,h8_3,h8_4⟩:=kb5 BK584.out
    go_wp2
    go_meet
    case rel=>exact ⟨_,(false),(cl2),H',⟨by first|omega|exact Nat.le_refl _⟩,⟨bk BK584.out⟩,⟨bl HB.out⟩⟩
   ·rw [if_neg c7] at H
    have c7b0:(a0_0 == 1) = false:=beq_eq_false_iff_ne.mpr c7;have c7b1:(a0_0 != 1) = true:=bne_iff_ne.mpr c7;have H':=Aside0.mk H;clear H;obtain ⟨h9_0,h9_1,h9_2,h9_3,h9_4⟩:=kb5 BK584.out
    go_wp2
    go_meet
    case rel=>exact ⟨_,((a0_1 != 0)),(cl2),H',⟨by first|omega|exact Nat.le_refl _⟩,⟨bk BK584.out⟩,⟨bl HB.out⟩⟩
  ·rw [if_neg c6] at H
   have c6b0:(a0_0 == 9) = false:=beq_eq_false_iff_ne.mpr c6;have c6b1:(a0_0 != 9) = true:=bne_iff_ne.mpr c6
   (first|rw [c6b0]|(simp only [i64_w,i32_w];rw [c6b0])|(simp only [c6b2,Bool.not_true,Bool.not_false])|skip)
   by_cases c10:(l0_4.length:Int) > 0
   ·rw [if_pos c10] at H
    have c10b0:decide (0 < (l0_4.length:Int)) = true:=decide_eq_true c10;have c10b1:decide (0 < l0_4.length) = true:=decide_eq_true (by omega);clear c10;have H':=Aside0.mk H;clear H;obtain ⟨h11_0,h11_1,h11_2,h11_3,h11_4⟩:=kb5 BK584.out
    go_wp2
    go_meet
    case rel=>exact ⟨_,(true),(cl2),H',⟨by first|omega|exact Nat.le_refl _⟩,⟨bk BK584.out⟩,⟨bl HB.out⟩⟩
   ·rw [if_neg c10] at H
    have c10b0:decide (0 < (l0_4.length:Int)) = false:=decide_eq_false c10;have c10b1:decide (0 < l0_4.length) = false:=decide_eq_false (by omega);clear c10
    by_cases c12:a0_0 = 1
    ·rw [if_pos c12] at H
     have c12b0:(a0_0 == 1) = true:=beq_iff_eq.mpr c12;have c12b1:(a0_0 != 1) = false:=bne_eq_false_iff_eq.mpr c12;clear c12;have H':=Aside0.mk H;clear H;obtain ⟨h13_0,h13_1,h13_2,h13_3,h13_4⟩:=kb5 BK584.out
     go_wp2
     go_meet
     case rel=>exact ⟨_,(false),(cl2),H',⟨by first|omega|exact Nat.le_refl _⟩,⟨bk BK584.out⟩,⟨bl HB.out⟩⟩
    ·rw [if_neg c12] at H
     have c12b0:(a0_0 == 1) = false:=beq_eq_false_iff_ne.mpr c12;have c12b1:(a0_0 != 1) = true:=bne_iff_ne.mpr c12;have H':=Aside0.mk H;clear H;obtain ⟨h14_0,h14_1,h14_2,h14_3,h14_4⟩:=kb5 BK584.out
     go_wp2
     go_meet
     case rel=>exact ⟨_,((a0_1 != 0)),(cl2),H',⟨by first|omega|exact Nat.le_refl _⟩,⟨bk BK584.out⟩,⟨bl HB.out⟩⟩
 case rest =>
  clear HC3;(try clear h5_0 h5_1 h5_2 h5_3 h5_4);(try clear z5_0 z5_1 z5_2 z5_3 z5_4);(try clear BK584);(try clear HB);obtain ⟨kq,x27_2,rfl,HA,HJ2,BK584,HB⟩:=hcut
  cases kq with
  | zero=>exact absurd HA.out (by simp [spec_l4Shape.j0])
  | succ kj2 =>
   have H:=HA.out;clear HA;simp only [spec_l4Shape.j0] at H
   by_cases c15:x27_2 = true
   ·subst c15
    have H1:(some false) = some r:=by rw [if_pos rfl] at H;exact H
    clear H;have H:=H1;clear H1;obtain rfl:=Option.some.inj H
    go_wp2
    go_ret
    exact ⟨cl,bl HB.out⟩
   ·replace c15:=Bool.eq_false_iff.mpr c15
    subst c15;have H1:(if a0_0 = 1 then ((spec_l1In.f a0_1 0 1000000000000).bind fun t585=>(if t585 = true then (if a0_2.toList = ([]:List UInt8) then (some ((l0_3.length:Int) == 0)) else (some false)) else (some false))) else (if a0_0 = 2 then ((spec_l4Atom.f kj2 a0_2).bind fun t586=>(if t586 = true then (some ((l0_3.length:Int) == 0)) else (some false))) else (if a0_0 = 3 then ((spec_l3VarOk.f kj2 a0_2).bind fun t587=>(if t587 = true then (if (l0_3.length:Int) = 0 then (if a1 = true then (some true) else (some (a0_2.toList != ([95]:List UInt8)))) else (some false)) else (some false))) else (if a0_0 = 4 then (spec_l4Shape.j1 kj2 a1 (l0_3.length:Int) a0_0 (a0_0 == 4) a0_0 a0_1 a0_2 l0_3 l0_4) else (spec_l4Shape.j1 kj2 a1 (l0_3.length:Int) a0_0 (a0_0 == 5) a0_0 a0_1 a0_2 l0_3 l0_4))))) = some r:=nt H
    clear H;have H:=H1;clear H1
    by_cases c16:a0_0 = 1
    ·rw [if_pos c16] at H
     have c16b0:(a0_0 == 1) = true:=beq_iff_eq.mpr c16;have c16b1:(a0_0 != 1) = false:=bne_eq_false_iff_eq.mpr c16;clear c16;replace H:=Option.bind_eq_some_iff.mp H;obtain ⟨t585,A170,H⟩:=H;replace H:(if t585 = true then (if a0_2.toList = ([]:List UInt8) then (some ((l0_3.length:Int) == 0)) else (some false)) else (some false)) = some r:=H;have A17:=Aside0.mk A170;clear A170
     by_cases c18:t585 = true
     ·subst c18
      have H1:(if a0_2.toList = ([]:List UInt8) then (some ((l0_3.length:Int) == 0)) else (some false)) = some r:=by rw [if_pos rfl] at H;exact H
      clear H;have H:=H1;clear H1
      by_cases c19:a0_2.toList = ([]:List UInt8)
      ·rw [if_pos c19] at H
       have c19b0:(a0_2.toList == ([]:List UInt8)) = true:=beq_iff_eq.mpr c19;have c19b1:(a0_2.toList != ([]:List UInt8)) = false:=bne_eq_false_iff_eq.mpr c19;clear c19;obtain rfl:=Option.some.inj H;obtain ⟨h20_0,h20_1,h20_2,h20_3,h20_4⟩:=kb5 BK584.out
       go_wp2_with (first|((with_reducible refine gate_callee (f:=37) rfl ?_);refine goesL_ (some 34) rfl rfl Try.func37 (by kernel_rfl) rfl #[.int .i64 a0_1,.int .i64 0,.int .i64 1000000000000] rfl gs ?_;(with_reducible refine (spec_l1In.calls a0_1 0 1000000000000 true _ A17.out).mono ?_);rintro e w' ⟨rfl,⟨nd,rfl⟩⟩;refine ⟨_,rfl,?_⟩))
       go_ret
       exact ⟨cl,bl HB.out⟩
      ·rw [if_neg c19] at H
       have c19b0:(a0_2.toList == ([]:List UInt8)) = false:=beq_eq_false_iff_ne.mpr c19;have c19b1:(a0_2.toList != ([]:List UInt8)) = true:=bne_iff_ne.mpr c19;obtain rfl:=Option.some.inj H;obtain ⟨h21_0,h21_1,h21_2,h21_3,h21_4⟩:=kb5 BK584.out
       go_wp2_with (first|((with_reducible refine gate_callee (f:=37) rfl ?_);refine goesL_ (some 34) rfl rfl Try.func37 (by kernel_rfl) rfl #[.int .i64 a0_1,.int .i64 0,.int .i64 1000000000000] rfl gs ?_;(with_reducible refine (spec_l1In.calls a0_1 0 1000000000000 true _ A17.out).mono ?_);rintro e w' ⟨rfl,⟨nd,rfl⟩⟩;refine ⟨_,rfl,?_⟩))
       go_ret
       exact ⟨cl,bl HB.out⟩
     ·replace c18:=Bool.eq_false_iff.mpr c18
      subst c18;have H1:(some false) = some r:=nt H
      clear H;have H:=H1;clear H1;obtain rfl:=Option.some.inj H;obtain ⟨h22_0,h22_1,h22_2,h22_3,h22_4⟩:=kb5 BK584.out
      go_wp2_with (first|((with_reducible refine gate_callee (f:=37) rfl ?_);refine goesL_ (some 34) rfl rfl Try.func37 (by kernel_rfl) rfl #[.int .i64 a0_1,.int .i64 0,.int .i64 1000000000000] rfl gs ?_;(with_reducible refine (spec_l1In.calls a0_1 0 1000000000000 false _ A17.out).mono ?_);rintro e w' ⟨rfl,⟨nd,rfl⟩⟩;refine ⟨_,rfl,?_⟩))
      go_ret
      exact ⟨cl,bl HB.out⟩
    ·rw [if_neg c16] at H
     have c16b0:(a0_0 == 1) = false:=beq_eq_false_iff_ne.mpr c16;have c16b1:(a0_0 != 1) = true:=bne_iff_ne.mpr c16
     by_cases c23:a0_0 = 2
     ·rw [if_pos c23] at H
      have c23b0:(a0_0 == 2) = true:=beq_iff_eq.mpr c23;have c23b1:(a0_0 != 2) = false:=bne_eq_false_iff_eq.mpr c23;clear c23;replace H:=Option.bind_eq_some_iff.mp H;obtain ⟨t586,A240,H⟩:=H;replace H:(if t586 = true then (some ((l0_3.length:Int) == 0)) else (some false)) = some r:=H;have A24:=Aside0.mk A240;clear A240
      by_cases c25:t586 = true
      ·subst c25
       have H1:(some ((l0_3.length:Int) == 0)) = some r:=by rw [if_pos rfl] at H;exact H
       clear H;have H:=H1;clear H1;obtain rfl:=Option.some.inj H;obtain ⟨h26_0,h26_1,h26_2,h26_3,h26_4⟩:=kb5 BK584.out
       go_wp2_with (first|((with_reducible refine gate_callee (f:=38) rfl ?_);refine goesL_ (some 48) rfl rfl Try.func38 (by kernel_rfl) rfl #[.string a0_2] rfl gs ?_;(with_reducible refine (spec_l4Atom.calls kj2 a0_2 true _ A24.out).mono ?_);rintro e w' ⟨rfl,⟨nd,rfl⟩⟩;refine ⟨_,rfl,?_⟩))
       go_ret
       exact ⟨cl,bl HB.out⟩
      ·replace c25:=Bool.eq_false_iff.mpr c25
       subst c25;have H1:(some false) = some r:=nt H
       clear H;have H:=H1;clear H1;obtain rfl:=Option.some.inj H;obtain ⟨h27_0,h27_1,h27_2,h27_3,h27_4⟩:=kb5 BK584.out
       go_wp2_with (first|((with_reducible refine gate_callee (f:=38) rfl ?_);refine goesL_ (some 48) rfl rfl Try.func38 (by kernel_rfl) rfl #[.string a0_2] rfl gs ?_;(with_reducible refine (spec_l4Atom.calls kj2 a0_2 false _ A24.out).mono ?_);rintro e w' ⟨rfl,⟨nd,rfl⟩⟩;refine ⟨_,rfl,?_⟩))
       go_ret
       exact ⟨cl,bl HB.out⟩
     ·rw [if_neg c23] at H
      have c23b0:(a0_0 == 2) = false:=beq_eq_false_iff_ne.mpr c23;have c23b1:(a0_0 != 2) = true:=bne_iff_ne.mpr c23
      by_cases c28:a0_0 = 3
      ·rw [if_pos c28] at H
       have c28b0:(a0_0 == 3) = true:=beq_iff_eq.mpr c28;have c28b1:(a0_0 != 3) = false:=bne_eq_false_iff_eq.mpr c28;clear c28;replace H:=Option.bind_eq_some_iff.mp H;obtain ⟨t587,A290,H⟩:=H;replace H:(if t587 = true then (if (l0_3.length:Int) = 0 then (if a1 = true then (some true) else (some (a0_2.toList != ([95]:List UInt8)))) else (some false)) else (some false)) = some r:=H;have A29:=Aside0.mk A290;clear A290
       by_cases c30:t587 = true
       ·subst c30
        have H1:(if (l0_3.length:Int) = 0 then (if a1 = true then (some true) else (some (a0_2.toList != ([95]:List UInt8)))) else (some false)) = some r:=by rw [if_pos rfl] at H;exact H
        clear H;have H:=H1;clear H1
        by_cases c31:(l0_3.length:Int) = 0
        ·rw [if_pos c31] at H
         have c31b0:((l0_3.length:Int) == 0) = true:=beq_iff_eq.mpr c31;have c31b1:((l0_3.length:Int) != 0) = false:=bne_eq_false_iff_eq.mpr c31;clear c31
         by_cases c32:a1 = true
         ·subst c32
          have H1:(some true) = some r:=by rw [if_pos rfl] at H;exact H
          clear H;have H:=H1;clear H1;obtain rfl:=Option.some.inj H;obtain ⟨h33_0,h33_1,h33_2,h33_3,h33_4⟩:=kb5 BK584.out
          go_wp2_with (first|((with_reducible refine gate_callee (f:=39) rfl ?_);refine goesL_ (some 57) rfl rfl Try.func39 (by kernel_rfl) rfl #[.string a0_2] rfl gs ?_;(with_reducible refine (spec_l3VarOk.calls kj2 a0_2 true _ A29.out).mono ?_);rintro e w' ⟨rfl,⟨nd,rfl⟩⟩;refine ⟨_,rfl,?_⟩))
          go_ret
          exact ⟨cl,bl HB.out⟩
         ·replace c32:=Bool.eq_false_iff.mpr c32
          subst c32;have H1:(some (a0_2.toList != ([95]:List UInt8))) = some r:=nt H
          clear H;have H:=H1;clear H1;obtain rfl:=Option.some.inj H;obtain ⟨h34_0,h34_1,h34_2,h34_3,h34_4⟩:=kb5 BK584.out
          go_wp2_with (first|((with_reducible refine gate_callee (f:=39) rfl ?_);refine goesL_ (some 57) rfl rfl Try.func39 (by kernel_rfl) rfl #[.string a0_2] rfl gs ?_;(with_reducible refine (spec_l3VarOk.calls kj2 a0_2 true _ A29.out).mono ?_);rintro e w' ⟨rfl,⟨nd,rfl⟩⟩;refine ⟨_,rfl,?_⟩))
          go_ret
          exact ⟨cl,bl HB.out⟩
        ·rw [if_neg c31] at H
         have c31b0:((l0_3.length:Int) == 0) = false:=beq_eq_false_iff_ne.mpr c31;have c31b1:((l0_3.length:Int) != 0) = true:=bne_iff_ne.mpr c31;have c31b2 : ¬ (l0_3 = []):=fun h_=>c31 (by rw [h_];rfl)
         obtain rfl:=Option.some.inj H;obtain ⟨h35_0,h35_1,h35_2,h35_3,h35_4⟩:=kb5 BK584.out
         go_wp2_with (first|((with_reducible refine gate_callee (f:=39) rfl ?_);refine goesL_ (some 57) rfl rfl Try.func39 (by kernel_rfl) rfl #[.string a0_2] rfl gs ?_;(with_reducible refine (spec_l3VarOk.calls kj2 a0_2 true _ A29.out).mono ?_);rintro e w' ⟨rfl,⟨nd,rfl⟩⟩;refine ⟨_,rfl,?_⟩))
         go_ret
         exact ⟨cl,bl HB.out⟩
       ·replace c30:=Bool.eq_false_iff.mpr c30
        subst c30;have H1:(some false) = some r:=nt H
        clear H;have H:=H1;clear H1;obtain rfl:=Option.some.inj H;obtain ⟨h36_0,h36_1,h36_2,h36_3,h36_4⟩:=kb5 BK584.out
        go_wp2_with (first|((with_reducible refine gate_callee (f:=39) rfl ?_);refine goesL_ (some 57) rfl rfl Try.func39 (by kernel_rfl) rfl #[.string a0_2] rfl gs ?_;(with_reducible refine (spec_l3VarOk.calls kj2 a0_2 false _ A29.out).mono ?_);rintro e w' ⟨rfl,⟨nd,rfl⟩⟩;refine ⟨_,rfl,?_⟩))
        go_ret
        exact ⟨cl,bl HB.out⟩
      ·rw [if_neg c28] at H
       have c28b0:(a0_0 == 3) = false:=beq_eq_false_iff_ne.mpr c28;have c28b1:(a0_0 != 3) = true:=bne_iff_ne.mpr c28;have HC37:=Aside0.mk H;clear H;obtain ⟨h38_0,h38_1,h38_2,h38_3,h38_4⟩:=kb5 BK584.out
       go_upto_if 70 with (fail)
       go_cut [70] (fun v70 wc=>∃ (kq:Nat) (x70_36:Bool),v70 = .bool x70_36∧Aside0 (spec_l4Shape.j1 kq a1 (l0_3.length:Int) a0_0 x70_36 a0_0 a0_1 a0_2 l0_3 l0_4 = some r)∧Aside0 (kq≤kj2)∧Aside0 (wc.heap[gb584]? = some (.cells #[.int .i64 a0_0,.int .i64 a0_1,.string a0_2,(.slice A0_3 l0_3.length c0_3),(.slice A0_4 l0_4.length c0_4)] 27 (0,0)))∧Aside0 (Below w.heap.size w wc))
       case first =>
        have H:=HC37.out;clear HC37
        by_cases c39:a0_0 = 4
        ·rw [if_pos c39] at H
         have c39b0:(a0_0 == 4) = true:=beq_iff_eq.mpr c39;have c39b1:(a0_0 != 4) = false:=bne_eq_false_iff_eq.mpr c39;clear c39
         (first|rw [c39b0]|(simp only [i64_w,i32_w];rw [c39b0])|(simp only [c39b2,Bool.not_true,Bool.not_false])|skip)
         have H':=Aside0.mk H;clear H
         go_wp2
         go_meet
         case rel=>exact ⟨_,((a0_0 == 4)),(cl2),H',⟨by have:=HJ2.out;first|omega|exact Nat.le_refl _⟩,⟨bk BK584.out⟩,⟨bl HB.out⟩⟩
        ·rw [if_neg c39] at H
         have c39b0:(a0_0 == 4) = false:=beq_eq_false_iff_ne.mpr c39;have c39b1:(a0_0 != 4) = true:=bne_iff_ne.mpr c39
         (first|rw [c39b0]|(simp only [i64_w,i32_w];rw [c39b0])|(simp only [c39b2,Bool.not_true,Bool.not_false])|skip)
         have H':=Aside0.mk H;clear H
         go_wp2
         go_meet
         case rel=>exact ⟨_,((a0_0 == 5)),(cl2),H',⟨by have:=HJ2.out;first|omega|exact Nat.le_refl _⟩,⟨bk BK584.out⟩,⟨bl HB.out⟩⟩
       case rest =>
        clear HC37;(try clear c15);(try clear c16);(try clear c16b0);(try clear c16b1);(try clear c23);(try clear c23b0);(try clear c23b1);(try clear c28);(try clear c28b0);(try clear c28b1);(try clear h38_0 h38_1 h38_2 h38_3 h38_4);(try clear h5_0 h5_1 h5_2 h5_3 h5_4)
        (try clear z5_0 z5_1 z5_2 z5_3 z5_4);(try clear BK584);(try clear HB);obtain ⟨kq,x70_36,rfl,HA,HJ36,BK584,HB⟩:=hcut
        cases kq with
        | zero=>exact absurd HA.out (by simp [spec_l4Shape.j1])
        | succ kj36 =>
         have H:=HA.out;clear HA;simp only [spec_l4Shape.j1] at H
         by_cases c40:x70_36 = true
         ·subst c40
          have H1:(if a0_2.toList = ([]:List UInt8) then (some (decide ((l0_3.length:Int)≤20))) else (some false)) = some r:=by rw [if_pos rfl] at H;exact H
          clear H;have H:=H1;clear H1
          by_cases c41:a0_2.toList = ([]:List UInt8)
          ·rw [if_pos c41] at H
           have c41b0:(a0_2.toList == ([]:List UInt8)) = true:=beq_iff_eq.mpr c41;have c41b1:(a0_2.toList != ([]:List UInt8)) = false:=bne_eq_false_iff_eq.mpr c41;clear c41;obtain rfl:=Option.some.inj H;obtain ⟨h42_0,h42_1,h42_2,h42_3,h42_4⟩:=kb5 BK584.out
           go_wp2
           go_ret
           exact ⟨cl,bl HB.out⟩
          ·rw [if_neg c41] at H
           have c41b0:(a0_2.toList == ([]:List UInt8)) = false:=beq_eq_false_iff_ne.mpr c41;have c41b1:(a0_2.toList != ([]:List UInt8)) = true:=bne_iff_ne.mpr c41;obtain rfl:=Option.some.inj H;obtain ⟨h43_0,h43_1,h43_2,h43_3,h43_4⟩:=kb5 BK584.out
           go_wp2
           go_ret
           exact ⟨cl,bl HB.out⟩
         ·replace c40:=Bool.eq_false_iff.mpr c40
          subst c40;have H1:(if a0_0 = 6 then (if a0_2.toList = ([]:List UInt8) then ((spec_l1In.f (l0_3.length:Int) 2 6).bind fun t588=>(some t588)) else (some false)) else (if a0_0 = 7 then (if a1 = true then (some false) else ((spec_l4Op.f a0_2).bind fun t589=>(if t589 = true then (some ((l0_3.length:Int) == 2)) else (some false)))) else (if a0_0 = 8 then (if a1 = true then (some false) else ((spec_l4Atom.f kj36 a0_2).bind fun t590=>(if t590 = true then (some (decide ((l0_3.length:Int)≤4))) else (some false)))) else (if a0_0 = 9 then (if a1 = true then (some false) else (if a0_2.toList = ([]:List UInt8) then (if (l0_3.length:Int) = 1 then ((spec_l1In.f (l0_4.length:Int) 1 6).bind fun t591=>(some t591)) else (some false)) else (some false))) else (some false))))) = some r:=nt H
          clear H;have H:=H1;clear H1
          by_cases c44:a0_0 = 6
          ·rw [if_pos c44] at H
           have c44b0:(a0_0 == 6) = true:=beq_iff_eq.mpr c44;have c44b1:(a0_0 != 6) = false:=bne_eq_false_iff_eq.mpr c44;clear c44
           by_cases c45:a0_2.toList = ([]:List UInt8)
           ·rw [if_pos c45] at H
            have c45b0:(a0_2.toList == ([]:List UInt8)) = true:=beq_iff_eq.mpr c45;have c45b1:(a0_2.toList != ([]:List UInt8)) = false:=bne_eq_false_iff_eq.mpr c45;clear c45;replace H:=Option.bind_eq_some_iff.mp H;obtain ⟨t588,A460,H⟩:=H;replace H:(some t588) = some r:=H;have A46:=Aside0.mk A460;clear A460;obtain rfl:=Option.some.inj H;obtain ⟨h47_0,h47_1,h47_2,h47_3,h47_4⟩:=kb5 BK584.out
            go_wp2_with (first|(go_at_call 37;(with_reducible refine (spec_l1In.calls (l0_3.length:Int) 2 6 t588 _ A46.out).mono ?_);rintro e w' ⟨rfl,⟨nd,rfl⟩⟩))
            go_ret
            exact ⟨cl,bl HB.out⟩
           ·rw [if_neg c45] at H
            have c45b0:(a0_2.toList == ([]:List UInt8)) = false:=beq_eq_false_iff_ne.mpr c45;have c45b1:(a0_2.toList != ([]:List UInt8)) = true:=bne_iff_ne.mpr c45;obtain rfl:=Option.some.inj H;obtain ⟨h48_0,h48_1,h48_2,h48_3,h48_4⟩:=kb5 BK584.out
            go_wp2
            go_ret
            exact ⟨cl,bl HB.out⟩
          ·rw [if_neg c44] at H
           have c44b0:(a0_0 == 6) = false:=beq_eq_false_iff_ne.mpr c44;have c44b1:(a0_0 != 6) = true:=bne_iff_ne.mpr c44
           by_cases c49:a0_0 = 7
           ·rw [if_pos c49] at H
            have c49b0:(a0_0 == 7) = true:=beq_iff_eq.mpr c49;have c49b1:(a0_0 != 7) = false:=bne_eq_false_iff_eq.mpr c49;clear c49
            by_cases c50:a1 = true
            ·subst c50
             have H1:(some false) = some r:=by rw [if_pos rfl] at H;exact H
             clear H;have H:=H1;clear H1;obtain rfl:=Option.some.inj H
             go_wp2
             go_ret
             exact ⟨cl,bl HB.out⟩
            ·replace c50:=Bool.eq_false_iff.mpr c50
             subst c50;have H1:((spec_l4Op.f a0_2).bind fun t589=>(if t589 = true then (some ((l0_3.length:Int) == 2)) else (some false))) = some r:=nt H
             clear H;have H:=H1;clear H1;replace H:=Option.bind_eq_some_iff.mp H;obtain ⟨t589,A510,H⟩:=H;replace H:(if t589 = true then (some ((l0_3.length:Int) == 2)) else (some false)) = some r:=H;have A51:=Aside0.mk A510;clear A510
             by_cases c52:t589 = true
             ·subst c52
              have H1:(some ((l0_3.length:Int) == 2)) = some r:=by rw [if_pos rfl] at H;exact H
              clear H;have H:=H1;clear H1;obtain rfl:=Option.some.inj H;obtain ⟨h53_0,h53_1,h53_2,h53_3,h53_4⟩:=kb5 BK584.out
              go_wp2_with (first|(go_at_call 40;(with_reducible refine (spec_l4Op.calls a0_2 true _ A51.out).mono ?_);rintro e w' ⟨rfl,⟨nd,rfl⟩⟩))
              go_ret
              exact ⟨cl,bl HB.out⟩
             ·replace c52:=Bool.eq_false_iff.mpr c52
              subst c52;have H1:(some false) = some r:=nt H
              clear H;have H:=H1;clear H1;obtain rfl:=Option.some.inj H;obtain ⟨h54_0,h54_1,h54_2,h54_3,h54_4⟩:=kb5 BK584.out
              go_wp2_with (first|(go_at_call 40;(with_reducible refine (spec_l4Op.calls a0_2 false _ A51.out).mono ?_);rintro e w' ⟨rfl,⟨nd,rfl⟩⟩))
              go_ret
              exact ⟨cl,bl HB.out⟩
           ·rw [if_neg c49] at H
            have c49b0:(a0_0 == 7) = false:=beq_eq_false_iff_ne.mpr c49;have c49b1:(a0_0 != 7) = true:=bne_iff_ne.mpr c49
            by_cases c55:a0_0 = 8
            ·rw [if_pos c55] at H
             have c55b0:(a0_0 == 8) = true:=beq_iff_eq.mpr c55;have c55b1:(a0_0 != 8) = false:=bne_eq_false_iff_eq.mpr c55;clear c55
             by_cases c56:a1 = true
             ·subst c56
              have H1:(some false) = some r:=by rw [if_pos rfl] at H;exact H
              clear H;have H:=H1;clear H1;obtain rfl:=Option.some.inj H
              go_wp2
              go_ret
              exact ⟨cl,bl HB.out⟩
             ·replace c56:=Bool.eq_false_iff.mpr c56
              subst c56;have H1:((spec_l4Atom.f kj36 a0_2).bind fun t590=>(if t590 = true then (some (decide ((l0_3.length:Int)≤4))) else (some false))) = some r:=nt H
              clear H;have H:=H1;clear H1;replace H:=Option.bind_eq_some_iff.mp H;obtain ⟨t590,A570,H⟩:=H;replace H:(if t590 = true then (some (decide ((l0_3.length:Int)≤4))) else (some false)) = some r:=H;have A57:=Aside0.mk A570;clear A570
              by_cases c58:t590 = true
              ·subst c58
               have H1:(some (decide ((l0_3.length:Int)≤4))) = some r:=by rw [if_pos rfl] at H;exact H
               clear H;have H:=H1;clear H1;obtain rfl:=Option.some.inj H;obtain ⟨h59_0,h59_1,h59_2,h59_3,h59_4⟩:=kb5 BK584.out
               go_wp2_with (first|(go_at_call 38;(with_reducible refine (spec_l4Atom.calls kj36 a0_2 true _ A57.out).mono ?_);rintro e w' ⟨rfl,⟨nd,rfl⟩⟩))
               go_ret
               exact ⟨cl,bl HB.out⟩
              ·replace c58:=Bool.eq_false_iff.mpr c58
               subst c58;have H1:(some false) = some r:=nt H
               clear H;have H:=H1;clear H1;obtain rfl:=Option.some.inj H;obtain ⟨h60_0,h60_1,h60_2,h60_3,h60_4⟩:=kb5 BK584.out
               go_wp2_with (first|(go_at_call 38;(with_reducible refine (spec_l4Atom.calls kj36 a0_2 false _ A57.out).mono ?_);rintro e w' ⟨rfl,⟨nd,rfl⟩⟩))
               go_ret
               exact ⟨cl,bl HB.out⟩
            ·rw [if_neg c55] at H
             have c55b0:(a0_0 == 8) = false:=beq_eq_false_iff_ne.mpr c55;have c55b1:(a0_0 != 8) = true:=bne_iff_ne.mpr c55
             by_cases c61:a0_0 = 9
             ·rw [if_pos c61] at H
              have c61b0:(a0_0 == 9) = true:=beq_iff_eq.mpr c61;have c61b1:(a0_0 != 9) = false:=bne_eq_false_iff_eq.mpr c61;clear c61
              by_cases c62:a1 = true
              ·subst c62
               have H1:(some false) = some r:=by rw [if_pos rfl] at H;exact H
               clear H;have H:=H1;clear H1;obtain rfl:=Option.some.inj H
               go_wp2
               go_ret
               exact ⟨cl,bl HB.out⟩
              ·replace c62:=Bool.eq_false_iff.mpr c62
               subst c62;have H1:(if a0_2.toList = ([]:List UInt8) then (if (l0_3.length:Int) = 1 then ((spec_l1In.f (l0_4.length:Int) 1 6).bind fun t591=>(some t591)) else (some false)) else (some false)) = some r:=nt H
               clear H;have H:=H1;clear H1
               by_cases c63:a0_2.toList = ([]:List UInt8)
               ·rw [if_pos c63] at H
                have c63b0:(a0_2.toList == ([]:List UInt8)) = true:=beq_iff_eq.mpr c63;have c63b1:(a0_2.toList != ([]:List UInt8)) = false:=bne_eq_false_iff_eq.mpr c63;clear c63
                by_cases c64:(l0_3.length:Int) = 1
                ·rw [if_pos c64] at H
                 have c64b0:((l0_3.length:Int) == 1) = true:=beq_iff_eq.mpr c64;have c64b1:((l0_3.length:Int) != 1) = false:=bne_eq_false_iff_eq.mpr c64;clear c64;replace H:=Option.bind_eq_some_iff.mp H;obtain ⟨t591,A650,H⟩:=H;replace H:(some t591) = some r:=H;have A65:=Aside0.mk A650;clear A650;obtain rfl:=Option.some.inj H;obtain ⟨h66_0,h66_1,h66_2,h66_3,h66_4⟩:=kb5 BK584.out
                 go_wp2_with (first|(go_at_call 37;(with_reducible refine (spec_l1In.calls (l0_4.length:Int) 1 6 t591 _ A65.out).mono ?_);rintro e w' ⟨rfl,⟨nd,rfl⟩⟩))
                 go_ret
                 exact ⟨cl,bl HB.out⟩
                ·rw [if_neg c64] at H
                 have c64b0:((l0_3.length:Int) == 1) = false:=beq_eq_false_iff_ne.mpr c64;have c64b1:((l0_3.length:Int) != 1) = true:=bne_iff_ne.mpr c64;obtain rfl:=Option.some.inj H;obtain ⟨h67_0,h67_1,h67_2,h67_3,h67_4⟩:=kb5 BK584.out
                 go_wp2
                 go_ret
                 exact ⟨cl,bl HB.out⟩
               ·rw [if_neg c63] at H
                have c63b0:(a0_2.toList == ([]:List UInt8)) = false:=beq_eq_false_iff_ne.mpr c63;have c63b1:(a0_2.toList != ([]:List UInt8)) = true:=bne_iff_ne.mpr c63;obtain rfl:=Option.some.inj H;obtain ⟨h68_0,h68_1,h68_2,h68_3,h68_4⟩:=kb5 BK584.out
                go_wp2
                go_ret
                exact ⟨cl,bl HB.out⟩
             ·rw [if_neg c61] at H
              have c61b0:(a0_0 == 9) = false:=beq_eq_false_iff_ne.mpr c61;have c61b1:(a0_0 != 9) = true:=bne_iff_ne.mpr c61;obtain rfl:=Option.some.inj H
              go_wp2
              go_ret
              exact ⟨cl,bl HB.out⟩

end Go.Proofs.Ytaobcdpadpkngaa.QFnPatterns
