-- Written by a program of this workplace (print2.py) for this claim, over the print's words.
import Derived.Test.YtjgegnkphkfmoaaQFnExactExprOkx0
import Derived.Test.YtjgegnkphkfmoaaQFnExactExprOkx1
import Derived.Test.YtjgegnkphkfmoaaQFnExactExprOkx2
namespace Go.Proofs.Ytjgegnkphkfmoaa.QFnExactExprOk
open Go.RowKit Go.Proofs.YtjgegnkphkfmoaaW.PrintWords Go.Proofs.YtjgegnkphkfmoaaW.PrintLast Go.Proofs.YtjgegnkphkfmoaaW.PrintMore
attribute [local go_sem] max2_int min2_int max_two min_two max_three min_three max_four min_four   -- for this text's walks alone
set_option linter.unusedVariables false
set_option linter.unusedSimpArgs false

/-! ### spec_l4Shape: function 18 -/
mutual
def spec_l4Shape.j0:Nat → Bool → Int → Bool → Int → Int → ByteArray → List (S31) → List (S53) → Option (Bool)
 | 0,_,_,_,_,_,_,_,_=>none
 | k + 1,x1,x5,x27,x124000,x124001,x124002,x124003,x124004=>if x27 = true then (some false) else (if x124000 = 1 then ((spec_l1In.f x124001 0 1000000000000).bind fun t124=>(if t124 = true then (if x124002.toList = ([]:List UInt8) then (some (x5 == 0)) else (some false)) else (some false))) else (if x124000 = 2 then ((spec_l4Atom.f k x124002).bind fun t125=>(if t125 = true then (some (x5 == 0)) else (some false))) else (if x124000 = 3 then ((spec_l3VarOk.f k x124002).bind fun t126=>(if t126 = true then (if x5 = 0 then (if x1 = true then (some true) else (some (x124002.toList != ([95]:List UInt8)))) else (some false)) else (some false))) else (if x124000 = 4 then (spec_l4Shape.j1 k x1 x5 x124000 (x124000 == 4) x124000 x124001 x124002 x124003 x124004) else (spec_l4Shape.j1 k x1 x5 x124000 (x124000 == 5) x124000 x124001 x124002 x124003 x124004)))))
def spec_l4Shape.j1:Nat → Bool → Int → Int → Bool → Int → Int → ByteArray → List (S31) → List (S53) → Option (Bool)
 | 0,_,_,_,_,_,_,_,_,_=>none
 | k + 1,x1,x5,x29,x70,x124000,x124001,x124002,x124003,x124004=>if x70 = true then (if x124002.toList = ([]:List UInt8) then (some (decide (x5≤20))) else (some false)) else (if x29 = 6 then (if x124002.toList = ([]:List UInt8) then ((spec_l1In.f x5 2 6).bind fun t127=>(some t127)) else (some false)) else (if x29 = 7 then (if x1 = true then (some false) else ((spec_l4Op.f x124002).bind fun t128=>(if t128 = true then (some (x5 == 2)) else (some false)))) else (if x29 = 8 then (if x1 = true then (some false) else ((spec_l4Atom.f k x124002).bind fun t129=>(if t129 = true then (some (decide (x5≤4))) else (some false)))) else (if x29 = 9 then (if x1 = true then (some false) else (if x124002.toList = ([]:List UInt8) then (if x5 = 1 then ((spec_l1In.f (x124004.length:Int) 1 6).bind fun t130=>(some t130)) else (some false)) else (some false))) else (some false)))))
end
def spec_l4Shape.f (k:Nat) (a0_0:Int) (a0_1:Int) (a0_2:ByteArray) (l0_3:List (S31)) (l0_4:List (S53)) (a1:Bool):Option (Bool):=if a0_0 = 9 then (if a0_0 = 1 then (spec_l4Shape.j0 k a1 (l0_3.length:Int) false a0_0 a0_1 a0_2 l0_3 l0_4) else (spec_l4Shape.j0 k a1 (l0_3.length:Int) (a0_1 != 0) a0_0 a0_1 a0_2 l0_3 l0_4)) else (if (l0_4.length:Int) > 0 then (spec_l4Shape.j0 k a1 (l0_3.length:Int) true a0_0 a0_1 a0_2 l0_3 l0_4) else (if a0_0 = 1 then (spec_l4Shape.j0 k a1 (l0_3.length:Int) false a0_0 a0_1 a0_2 l0_3 l0_4) else (spec_l4Shape.j0 k a1 (l0_3.length:Int) (a0_1 != 0) a0_0 a0_1 a0_2 l0_3 l0_4)))
theorem spec_l4Shape.mono_l:∀ k,(∀ y0 y1 y2 y3 y4 y5 y6 y7,LeO (spec_l4Shape.j0 k y0 y1 y2 y3 y4 y5 y6 y7) (spec_l4Shape.j0 (k + 1) y0 y1 y2 y3 y4 y5 y6 y7))∧(∀ y0 y1 y2 y3 y4 y5 y6 y7 y8,LeO (spec_l4Shape.j1 k y0 y1 y2 y3 y4 y5 y6 y7 y8) (spec_l4Shape.j1 (k + 1) y0 y1 y2 y3 y4 y5 y6 y7 y8))
 | 0=>⟨fun _ _ _ _ _ _ _ _ r h=>by simp [spec_l4Shape.j0] at h,fun _ _ _ _ _ _ _ _ _ r h=>by simp [spec_l4Shape.j1] at h⟩
 | k + 1=>by
  obtain ⟨ih0,ih1⟩:=spec_l4Shape.mono_l k
  refine ⟨?_,?_⟩
  ·intro y0 y1 y2 y3 y4 y5 y6 y7
   unfold spec_l4Shape.j0
   repeat' first
   | (with_reducible exact ih0 _ _ _ _ _ _ _ _)
   | (with_reducible exact ih1 _ _ _ _ _ _ _ _ _)
   | (with_reducible exact spec_l3VarOk.mono _ _)
   | (with_reducible exact spec_l4Atom.mono _ _)
   | (with_reducible exact LeO.refl _)
   | (with_reducible exact LeO.none _)
   | (with_reducible refine LeO.ite ?_ ?_)
   | (with_reducible refine LeO.bind ?_ (fun _=>?_))
   | exact ih0 _ _ _ _ _ _ _ _
   | exact ih1 _ _ _ _ _ _ _ _ _
   | exact spec_l3VarOk.mono _ _
   | exact spec_l4Atom.mono _ _
   | exact LeO.none _
   | refine LeO.ite ?_ ?_
   | refine LeO.bind ?_ (fun _=>?_)
  ·intro y0 y1 y2 y3 y4 y5 y6 y7 y8
   unfold spec_l4Shape.j1
   repeat' first
   | (with_reducible exact ih0 _ _ _ _ _ _ _ _)
   | (with_reducible exact ih1 _ _ _ _ _ _ _ _ _)
   | (with_reducible exact spec_l3VarOk.mono _ _)
   | (with_reducible exact spec_l4Atom.mono _ _)
   | (with_reducible exact LeO.refl _)
   | (with_reducible exact LeO.none _)
   | (with_reducible refine LeO.ite ?_ ?_)
   | (with_reducible refine LeO.bind ?_ (fun _=>?_))
   | exact ih0 _ _ _ _ _ _ _ _
   | exact ih1 _ _ _ _ _ _ _ _ _
   | exact spec_l3VarOk.mono _ _
   | exact spec_l4Atom.mono _ _
   | exact LeO.none _
   | refine LeO.ite ?_ ?_
   | refine LeO.bind ?_ (fun _=>?_)
theorem spec_l4Shape.mono:∀ a0 a1 a2 a3 a4 a5 k,LeO (spec_l4Shape.f k a0 a1 a2 a3 a4 a5) (spec_l4Shape.f (k + 1) a0 a1 a2 a3 a4 a5):=by
 intro a0 a1 a2 a3 a4 a5 k
 obtain ⟨ih0,ih1⟩:=spec_l4Shape.mono_l k
 unfold spec_l4Shape.f
 repeat' first
   | (with_reducible exact ih0 _ _ _ _ _ _ _ _)
   | (with_reducible exact ih1 _ _ _ _ _ _ _ _ _)
   | (with_reducible exact spec_l3VarOk.mono _ _)
   | (with_reducible exact spec_l4Atom.mono _ _)
   | (with_reducible exact LeO.refl _)
   | (with_reducible exact LeO.none _)
   | (with_reducible refine LeO.ite ?_ ?_)
   | (with_reducible refine LeO.bind ?_ (fun _=>?_))
   | exact ih0 _ _ _ _ _ _ _ _
   | exact ih1 _ _ _ _ _ _ _ _ _
   | exact spec_l3VarOk.mono _ _
   | exact spec_l4Atom.mono _ _
   | exact LeO.none _
   | refine LeO.ite ?_ ?_
   | refine LeO.bind ?_ (fun _=>?_)
set_option maxHeartbeats 8000000 in
set_option maxRecDepth 100000 in
theorem spec_l4Shape.calls (k:Nat) (a0_0:Int) (a0_1:Int) (a0_2:ByteArray) (A0_3:Option Addr) (c0_3:Nat) (l0_3:List (S31)) (A0_4:Option Addr) (c0_4:Nat) (l0_4:List (S53)) (a1:Bool) (r:Bool) (w:World) (hr0_3:Kd.C k31 w A0_3 l0_3.length l0_3) (hc0_3:l0_3.length≤c0_3) (hr0_4:Kd.C k53 w A0_4 l0_4.length l0_4) (hc0_4:l0_4.length≤c0_4) (h:spec_l4Shape.f k a0_0 a0_1 a0_2 l0_3 l0_4 a1 = some r) :
  Calls Try.prog 18 #[.agg #[.int .i64 a0_0,.int .i64 a0_1,.string a0_2,.slice A0_3 l0_3.length c0_3,.slice A0_4 l0_4.length c0_4],.bool a1] w fun e w'=>e = .returned (.bool r)∧Below w.heap.size w w':=by
 have hu31:=Try.underlying31
 have HR0_3:=Aside0.mk hr0_3
 have HC0_3:=Aside0.mk hc0_3
 clear hr0_3 hc0_3
 have HR0_4:=Aside0.mk hr0_4
 have HC0_4:=Aside0.mk hc0_4
 clear hr0_4 hc0_4
 have HB:=Aside0.mk (Below.refl w.heap.size w)
 have H:(if a0_0 = 9 then (if a0_0 = 1 then (spec_l4Shape.j0 k a1 (l0_3.length:Int) false a0_0 a0_1 a0_2 l0_3 l0_4) else (spec_l4Shape.j0 k a1 (l0_3.length:Int) (a0_1 != 0) a0_0 a0_1 a0_2 l0_3 l0_4)) else (if (l0_4.length:Int) > 0 then (spec_l4Shape.j0 k a1 (l0_3.length:Int) true a0_0 a0_1 a0_2 l0_3 l0_4) else (if a0_0 = 1 then (spec_l4Shape.j0 k a1 (l0_3.length:Int) false a0_0 a0_1 a0_2 l0_3 l0_4) else (spec_l4Shape.j0 k a1 (l0_3.length:Int) (a0_1 != 0) a0_0 a0_1 a0_2 l0_3 l0_4)))) = some r:=h
 clear h
 have HC3:=Aside0.mk H
 clear H
 go_enter Try.func18,Try.ntmps18
 go_upto_region 2 with (first|((with_reducible refine gate_dst (N:=2) rfl ?_);(try (refine gate_guard (by rfl) ?_;dsimp only));refine box_event ?hg (N:=2) ?hd (cs:=#[.int .i64 a0_0,.int .i64 a0_1,.string a0_2,.slice A0_3 l0_3.length c0_3,.slice A0_4 l0_4.length c0_4]) (t:=31) ?hr ?_;(case hd=>rfl);(case hg=>rfl);(case hr=>first|(go_simp;done)|(go_simp;rfl));intro gb123 hg w4 hbox hb;have n0_:=Aside0.mk (below_step (by repeat (first|(with_reducible first|exact HB.out|apply below_alloc|apply pw_below_drewN|apply below_drew1)|exact HB.out)) hb);have n1_:=Aside0.mk (hbox);have n2_:=Aside0.mk ((by rw [hg];exact (below_size (by repeat (first|(with_reducible first|exact HB.out|apply below_alloc|apply pw_below_drewN|apply below_drew1)|exact HB.out))):w.heap.size≤gb123));have n3_:=Aside0.mk ((by rw [hg];exact (below_size (by repeat (first|(with_reducible first|exact HB.out|apply below_alloc|apply pw_below_drewN|apply below_drew1)|exact HB.out))):w.heap.size≤gb123));clear HB;have HB:=n0_;have BK123:=n1_;have GW123:=n2_;have GE123:=n3_;clear n0_ n1_ n2_ n3_;clear hb hbox hg;have hcz5_0:w4.cell? ⟨gb123,0,none⟩ = some (.int .i64 a0_0):=(blk_cell BK123.out 0).trans rfl;have hcz5_1:w4.cell? ⟨gb123,1,none⟩ = some (.int .i64 a0_1):=(blk_cell BK123.out 1).trans rfl;have hcz5_2:w4.cell? ⟨gb123,2,none⟩ = some (.string a0_2):=(blk_cell BK123.out 2).trans rfl;have hcz5_3:w4.cell? ⟨gb123,3,none⟩ = some (.slice A0_3 l0_3.length c0_3):=(blk_cell BK123.out 3).trans rfl;have hcz5_4:w4.cell? ⟨gb123,4,none⟩ = some (.slice A0_4 l0_4.length c0_4):=(blk_cell BK123.out 4).trans rfl;have hfz5_0:=blk_frozen BK123.out 0;have hfz5_1:=blk_frozen BK123.out 1;have hfz5_2:=blk_frozen BK123.out 2;have hfz5_3:=blk_frozen BK123.out 3;have hfz5_4:=blk_frozen BK123.out 4))
 (try simp only [Act.put,List.setIfInBounds_toArray,List.set_cons_zero,List.set_cons_succ])
 go_cut [27] (fun v27 wc=>∃ (kq:Nat) (x27_2:Bool),v27 = .bool x27_2∧Aside0 (spec_l4Shape.j0 kq a1 (l0_3.length:Int) x27_2 a0_0 a0_1 a0_2 l0_3 l0_4 = some r)∧Aside0 (kq≤k)∧Aside0 (wc.heap[gb123]? = some (.cells #[.int .i64 a0_0,.int .i64 a0_1,.string a0_2,(.slice A0_3 l0_3.length c0_3),(.slice A0_4 l0_4.length c0_4)] 31 (0,0)))∧Aside0 (Below w.heap.size w wc))
 case first =>
  have H:=HC3.out
  clear HC3
  by_cases c6:a0_0 = 9
  ·rw [if_pos c6] at H
   have c6b0:(a0_0 == 9) = true:=beq_iff_eq.mpr c6
   have c6b1:(a0_0 != 9) = false:=bne_eq_false_iff_eq.mpr c6
   clear c6
   (first|rw [c6b0]|(simp only [i64_w,i32_w];rw [c6b0])|(simp only [c6b2,Bool.not_true,Bool.not_false])|skip)
   by_cases c7:a0_0 = 1
   ·rw [if_pos c7] at H
    have c7b0:(a0_0 == 1) = true:=beq_iff_eq.mpr c7
    have c7b1:(a0_0 != 1) = false:=bne_eq_false_iff_eq.mpr c7
    clear c7
    have H':=Aside0.mk H
    clear H
    have hcz8_0:w4.cell? ⟨gb123,0,none⟩ = some (.int .i64 a0_0):=(blk_cell BK123.out 0).trans rfl
    have hcz8_1:w4.cell? ⟨gb123,1,none⟩ = some (.int .i64 a0_1):=(blk_cell BK123.out 1).trans rfl
    have hcz8_2:w4.cell? ⟨gb123,2,none⟩ = some (.string a0_2):=(blk_cell BK123.out 2).trans rfl
    have hcz8_3:w4.cell? ⟨gb123,3,none⟩ = some (.slice A0_3 l0_3.length c0_3):=(blk_cell BK123.out 3).trans rfl
    have hcz8_4:w4.cell? ⟨gb123,4,none⟩ = some (.slice A0_4 l0_4.length c0_4):=(blk_cell BK123.out 4).trans rfl
    have hfz8_0:=blk_frozen BK123.out 0
    have hfz8_1:=blk_frozen BK123.out 1
    have hfz8_2:=blk_frozen BK123.out 2
    have hfz8_3:=blk_frozen BK123.out 3
    have hfz8_4:=blk_frozen BK123.out 4
    go_wp2
    go_meet
    case rel=>exact ⟨_,(false),(by first|rfl|(simp;done)|(simp [*];done)),H',⟨by first|omega|exact Nat.le_refl _⟩,⟨by (with_reducible repeat (first|refine blk_drewN ?_ _|refine blk_drew ?_|refine blk_alloc ?_ _));exact BK123.out⟩,⟨by repeat (first|(with_reducible first|exact HB.out|apply below_alloc|apply pw_below_drewN|apply below_drew1|refine below_set ?_ GE123.out)|exact HB.out)⟩⟩
   ·rw [if_neg c7] at H
    have c7b0:(a0_0 == 1) = false:=beq_eq_false_iff_ne.mpr c7
    have c7b1:(a0_0 != 1) = true:=bne_iff_ne.mpr c7
    have H':=Aside0.mk H
    clear H
    have hcz9_0:w4.cell? ⟨gb123,0,none⟩ = some (.int .i64 a0_0):=(blk_cell BK123.out 0).trans rfl
    have hcz9_1:w4.cell? ⟨gb123,1,none⟩ = some (.int .i64 a0_1):=(blk_cell BK123.out 1).trans rfl
    have hcz9_2:w4.cell? ⟨gb123,2,none⟩ = some (.string a0_2):=(blk_cell BK123.out 2).trans rfl
    have hcz9_3:w4.cell? ⟨gb123,3,none⟩ = some (.slice A0_3 l0_3.length c0_3):=(blk_cell BK123.out 3).trans rfl
    have hcz9_4:w4.cell? ⟨gb123,4,none⟩ = some (.slice A0_4 l0_4.length c0_4):=(blk_cell BK123.out 4).trans rfl
    have hfz9_0:=blk_frozen BK123.out 0
    have hfz9_1:=blk_frozen BK123.out 1
    have hfz9_2:=blk_frozen BK123.out 2
    have hfz9_3:=blk_frozen BK123.out 3
    have hfz9_4:=blk_frozen BK123.out 4
    go_wp2
    go_meet
    case rel=>exact ⟨_,((a0_1 != 0)),(by first|rfl|(simp;done)|(simp [*];done)),H',⟨by first|omega|exact Nat.le_refl _⟩,⟨by (with_reducible repeat (first|refine blk_drewN ?_ _|refine blk_drew ?_|refine blk_alloc ?_ _));exact BK123.out⟩,⟨by repeat (first|(with_reducible first|exact HB.out|apply below_alloc|apply pw_below_drewN|apply below_drew1|refine below_set ?_ GE123.out)|exact HB.out)⟩⟩
  ·rw [if_neg c6] at H
   have c6b0:(a0_0 == 9) = false:=beq_eq_false_iff_ne.mpr c6
   have c6b1:(a0_0 != 9) = true:=bne_iff_ne.mpr c6
   (first|rw [c6b0]|(simp only [i64_w,i32_w];rw [c6b0])|(simp only [c6b2,Bool.not_true,Bool.not_false])|skip)
   by_cases c10:(l0_4.length:Int) > 0
   ·rw [if_pos c10] at H
    have c10b0:decide (0 < (l0_4.length:Int)) = true:=decide_eq_true c10
    have c10b1:decide (0 < l0_4.length) = true:=decide_eq_true (by omega)
    clear c10
    have H':=Aside0.mk H
    clear H
    have hcz11_0:w4.cell? ⟨gb123,0,none⟩ = some (.int .i64 a0_0):=(blk_cell BK123.out 0).trans rfl
    have hcz11_1:w4.cell? ⟨gb123,1,none⟩ = some (.int .i64 a0_1):=(blk_cell BK123.out 1).trans rfl
    have hcz11_2:w4.cell? ⟨gb123,2,none⟩ = some (.string a0_2):=(blk_cell BK123.out 2).trans rfl
    have hcz11_3:w4.cell? ⟨gb123,3,none⟩ = some (.slice A0_3 l0_3.length c0_3):=(blk_cell BK123.out 3).trans rfl
    have hcz11_4:w4.cell? ⟨gb123,4,none⟩ = some (.slice A0_4 l0_4.length c0_4):=(blk_cell BK123.out 4).trans rfl
    have hfz11_0:=blk_frozen BK123.out 0
    have hfz11_1:=blk_frozen BK123.out 1
    have hfz11_2:=blk_frozen BK123.out 2
    have hfz11_3:=blk_frozen BK123.out 3
    have hfz11_4:=blk_frozen BK123.out 4
    go_wp2
    go_meet
    case rel=>exact ⟨_,(true),(by first|rfl|(simp;done)|(simp [*];done)),H',⟨by first|omega|exact Nat.le_refl _⟩,⟨by (with_reducible repeat (first|refine blk_drewN ?_ _|refine blk_drew ?_|refine blk_alloc ?_ _));exact BK123.out⟩,⟨by repeat (first|(with_reducible first|exact HB.out|apply below_alloc|apply pw_below_drewN|apply below_drew1|refine below_set ?_ GE123.out)|exact HB.out)⟩⟩
   ·rw [if_neg c10] at H
    have c10b0:decide (0 < (l0_4.length:Int)) = false:=decide_eq_false c10
    have c10b1:decide (0 < l0_4.length) = false:=decide_eq_false (by omega)
    clear c10
    by_cases c12:a0_0 = 1
    ·rw [if_pos c12] at H
     have c12b0:(a0_0 == 1) = true:=beq_iff_eq.mpr c12
     have c12b1:(a0_0 != 1) = false:=bne_eq_false_iff_eq.mpr c12
     clear c12
     have H':=Aside0.mk H
     clear H
     have hcz13_0:w4.cell? ⟨gb123,0,none⟩ = some (.int .i64 a0_0):=(blk_cell BK123.out 0).trans rfl
     have hcz13_1:w4.cell? ⟨gb123,1,none⟩ = some (.int .i64 a0_1):=(blk_cell BK123.out 1).trans rfl
     have hcz13_2:w4.cell? ⟨gb123,2,none⟩ = some (.string a0_2):=(blk_cell BK123.out 2).trans rfl
     have hcz13_3:w4.cell? ⟨gb123,3,none⟩ = some (.slice A0_3 l0_3.length c0_3):=(blk_cell BK123.out 3).trans rfl
     have hcz13_4:w4.cell? ⟨gb123,4,none⟩ = some (.slice A0_4 l0_4.length c0_4):=(blk_cell BK123.out 4).trans rfl
     have hfz13_0:=blk_frozen BK123.out 0
     have hfz13_1:=blk_frozen BK123.out 1
     have hfz13_2:=blk_frozen BK123.out 2
     have hfz13_3:=blk_frozen BK123.out 3
     have hfz13_4:=blk_frozen BK123.out 4
     go_wp2
     go_meet
     case rel=>exact ⟨_,(false),(by first|rfl|(simp;done)|(simp [*];done)),H',⟨by first|omega|exact Nat.le_refl _⟩,⟨by (with_reducible repeat (first|refine blk_drewN ?_ _|refine blk_drew ?_|refine blk_alloc ?_ _));exact BK123.out⟩,⟨by repeat (first|(with_reducible first|exact HB.out|apply below_alloc|apply pw_below_drewN|apply below_drew1|refine below_set ?_ GE123.out)|exact HB.out)⟩⟩
    ·rw [if_neg c12] at H
     have c12b0:(a0_0 == 1) = false:=beq_eq_false_iff_ne.mpr c12
     have c12b1:(a0_0 != 1) = true:=bne_iff_ne.mpr c12
     have H':=Aside0.mk H
     clear H
     have hcz14_0:w4.cell? ⟨gb123,0,none⟩ = some (.int .i64 a0_0):=(blk_cell BK123.out 0).trans rfl
     have hcz14_1:w4.cell? ⟨gb123,1,none⟩ = some (.int .i64 a0_1):=(blk_cell BK123.out 1).trans rfl
     have hcz14_2:w4.cell? ⟨gb123,2,none⟩ = some (.string a0_2):=(blk_cell BK123.out 2).trans rfl
     have hcz14_3:w4.cell? ⟨gb123,3,none⟩ = some (.slice A0_3 l0_3.length c0_3):=(blk_cell BK123.out 3).trans rfl
     have hcz14_4:w4.cell? ⟨gb123,4,none⟩ = some (.slice A0_4 l0_4.length c0_4):=(blk_cell BK123.out 4).trans rfl
     have hfz14_0:=blk_frozen BK123.out 0
     have hfz14_1:=blk_frozen BK123.out 1
     have hfz14_2:=blk_frozen BK123.out 2
     have hfz14_3:=blk_frozen BK123.out 3
     have hfz14_4:=blk_frozen BK123.out 4
     go_wp2
     go_meet
     case rel=>exact ⟨_,((a0_1 != 0)),(by first|rfl|(simp;done)|(simp [*];done)),H',⟨by first|omega|exact Nat.le_refl _⟩,⟨by (with_reducible repeat (first|refine blk_drewN ?_ _|refine blk_drew ?_|refine blk_alloc ?_ _));exact BK123.out⟩,⟨by repeat (first|(with_reducible first|exact HB.out|apply below_alloc|apply pw_below_drewN|apply below_drew1|refine below_set ?_ GE123.out)|exact HB.out)⟩⟩
 case rest =>
  clear HC3
  try clear c1
  try clear p2
  try clear c6
  try clear c6b0
  try clear c6b1
  try clear c6b2
  try clear c7
  try clear c7b0
  try clear c7b1
  try clear c10
  try clear c10b0
  try clear c10b1
  try clear c12
  try clear c12b0
  try clear c12b1
  try clear hcz11_0
  try clear hcz11_1
  try clear hcz11_2
  try clear hcz11_3
  try clear hcz11_4
  try clear hcz13_0
  try clear hcz13_1
  try clear hcz13_2
  try clear hcz13_3
  try clear hcz13_4
  try clear hcz14_0
  try clear hcz14_1
  try clear hcz14_2
  try clear hcz14_3
  try clear hcz14_4
  try clear hcz5_0
  try clear hcz5_1
  try clear hcz5_2
  try clear hcz5_3
  try clear hcz5_4
  try clear hcz8_0
  try clear hcz8_1
  try clear hcz8_2
  try clear hcz8_3
  try clear hcz8_4
  try clear hcz9_0
  try clear hcz9_1
  try clear hcz9_2
  try clear hcz9_3
  try clear hcz9_4
  try clear hfz11_0
  try clear hfz11_1
  try clear hfz11_2
  try clear hfz11_3
  try clear hfz11_4
  try clear hfz13_0
  try clear hfz13_1
  try clear hfz13_2
  try clear hfz13_3
  try clear hfz13_4
  try clear hfz14_0
  try clear hfz14_1
  try clear hfz14_2
  try clear hfz14_3
  try clear hfz14_4
  try clear hfz5_0
  try clear hfz5_1
  try clear hfz5_2
  try clear hfz5_3
  try clear hfz5_4
  try clear hfz8_0
  try clear hfz8_1
  try clear hfz8_2
  try clear hfz8_3
  try clear hfz8_4
  try clear hfz9_0
  try clear hfz9_1
  try clear hfz9_2
  try clear hfz9_3
  try clear hfz9_4
  try clear BK123
  try clear HB
  obtain ⟨kq,x27_2,rfl,HA,HJ2,BK123,HB⟩:=hcut
  cases kq with
  | zero=>exact absurd HA.out (by simp [spec_l4Shape.j0])
  | succ kj2 =>
   have H:=HA.out
   clear HA
   simp only [spec_l4Shape.j0] at H
   by_cases c15:x27_2 = true
   ·subst c15
    have H1:(some false) = some r:=by rw [if_pos rfl] at H;exact H
    clear H
    have H:=H1
    clear H1
    obtain rfl:=Option.some.inj H
    go_wp2
    go_ret
    exact ⟨by first|rfl|(simp [*,errW_none,errW_some] <;> rfl),by repeat (first|(with_reducible first|exact HB.out|apply below_alloc|apply pw_below_drewN|apply below_drew1|refine below_set ?_ GE123.out)|exact HB.out)⟩
   ·replace c15:=Bool.eq_false_iff.mpr c15
    subst c15
    have H1:(if a0_0 = 1 then ((spec_l1In.f a0_1 0 1000000000000).bind fun t124=>(if t124 = true then (if a0_2.toList = ([]:List UInt8) then (some ((l0_3.length:Int) == 0)) else (some false)) else (some false))) else (if a0_0 = 2 then ((spec_l4Atom.f kj2 a0_2).bind fun t125=>(if t125 = true then (some ((l0_3.length:Int) == 0)) else (some false))) else (if a0_0 = 3 then ((spec_l3VarOk.f kj2 a0_2).bind fun t126=>(if t126 = true then (if (l0_3.length:Int) = 0 then (if a1 = true then (some true) else (some (a0_2.toList != ([95]:List UInt8)))) else (some false)) else (some false))) else (if a0_0 = 4 then (spec_l4Shape.j1 kj2 a1 (l0_3.length:Int) a0_0 (a0_0 == 4) a0_0 a0_1 a0_2 l0_3 l0_4) else (spec_l4Shape.j1 kj2 a1 (l0_3.length:Int) a0_0 (a0_0 == 5) a0_0 a0_1 a0_2 l0_3 l0_4))))) = some r:=by rw [if_neg (show ¬ (false = true) by decide)] at H;exact H
    clear H
    have H:=H1
    clear H1
    by_cases c16:a0_0 = 1
    ·rw [if_pos c16] at H
     have c16b0:(a0_0 == 1) = true:=beq_iff_eq.mpr c16
     have c16b1:(a0_0 != 1) = false:=bne_eq_false_iff_eq.mpr c16
     clear c16
     replace H:=Option.bind_eq_some_iff.mp H
     obtain ⟨t124,A170,H⟩:=H
     replace H:(if t124 = true then (if a0_2.toList = ([]:List UInt8) then (some ((l0_3.length:Int) == 0)) else (some false)) else (some false)) = some r:=H
     have A17:=Aside0.mk A170
     clear A170
     by_cases c18:t124 = true
     ·subst c18
      have H1:(if a0_2.toList = ([]:List UInt8) then (some ((l0_3.length:Int) == 0)) else (some false)) = some r:=by rw [if_pos rfl] at H;exact H
      clear H
      have H:=H1
      clear H1
      by_cases c19:a0_2.toList = ([]:List UInt8)
      ·rw [if_pos c19] at H
       have c19b0:(a0_2.toList == ([]:List UInt8)) = true:=beq_iff_eq.mpr c19
       have c19b1:(a0_2.toList != ([]:List UInt8)) = false:=bne_eq_false_iff_eq.mpr c19
       clear c19
       obtain rfl:=Option.some.inj H
       have hcz20_0:wc.cell? ⟨gb123,0,none⟩ = some (.int .i64 a0_0):=(blk_cell BK123.out 0).trans rfl
       have hcz20_1:wc.cell? ⟨gb123,1,none⟩ = some (.int .i64 a0_1):=(blk_cell BK123.out 1).trans rfl
       have hcz20_2:wc.cell? ⟨gb123,2,none⟩ = some (.string a0_2):=(blk_cell BK123.out 2).trans rfl
       have hcz20_3:wc.cell? ⟨gb123,3,none⟩ = some (.slice A0_3 l0_3.length c0_3):=(blk_cell BK123.out 3).trans rfl
       have hcz20_4:wc.cell? ⟨gb123,4,none⟩ = some (.slice A0_4 l0_4.length c0_4):=(blk_cell BK123.out 4).trans rfl
       have hfz20_0:=blk_frozen BK123.out 0
       have hfz20_1:=blk_frozen BK123.out 1
       have hfz20_2:=blk_frozen BK123.out 2
       have hfz20_3:=blk_frozen BK123.out 3
       have hfz20_4:=blk_frozen BK123.out 4
       go_wp2_with (first|((with_reducible refine gate_callee (f:=25) rfl ?_);refine goesL_ (some 34) rfl rfl Try.func25 (by kernel_rfl) rfl #[.int .i64 a0_1,.int .i64 0,.int .i64 1000000000000] rfl (by (try simp only [List.map_toArray,List.map_cons,List.map_nil]);first|done|rfl|(simp only [List.length_drop,List.length_take];rfl)) ?_;(with_reducible refine (spec_l1In.calls a0_1 0 1000000000000 true _ A17.out).mono ?_);rintro e w' ⟨rfl,⟨nd,rfl⟩⟩;refine ⟨_,rfl,?_⟩))
       go_ret
       exact ⟨by first|rfl|(simp [*,errW_none,errW_some] <;> rfl),by repeat (first|(with_reducible first|exact HB.out|apply below_alloc|apply pw_below_drewN|apply below_drew1|refine below_set ?_ GE123.out)|exact HB.out)⟩
      ·rw [if_neg c19] at H
       have c19b0:(a0_2.toList == ([]:List UInt8)) = false:=beq_eq_false_iff_ne.mpr c19
       have c19b1:(a0_2.toList != ([]:List UInt8)) = true:=bne_iff_ne.mpr c19
       obtain rfl:=Option.some.inj H
       have hcz21_0:wc.cell? ⟨gb123,0,none⟩ = some (.int .i64 a0_0):=(blk_cell BK123.out 0).trans rfl
       have hcz21_1:wc.cell? ⟨gb123,1,none⟩ = some (.int .i64 a0_1):=(blk_cell BK123.out 1).trans rfl
       have hcz21_2:wc.cell? ⟨gb123,2,none⟩ = some (.string a0_2):=(blk_cell BK123.out 2).trans rfl
       have hcz21_3:wc.cell? ⟨gb123,3,none⟩ = some (.slice A0_3 l0_3.length c0_3):=(blk_cell BK123.out 3).trans rfl
       have hcz21_4:wc.cell? ⟨gb123,4,none⟩ = some (.slice A0_4 l0_4.length c0_4):=(blk_cell BK123.out 4).trans rfl
       have hfz21_0:=blk_frozen BK123.out 0
       have hfz21_1:=blk_frozen BK123.out 1
       have hfz21_2:=blk_frozen BK123.out 2
       have hfz21_3:=blk_frozen BK123.out 3
       have hfz21_4:=blk_frozen BK123.out 4
       go_wp2_with (first|((with_reducible refine gate_callee (f:=25) rfl ?_);refine goesL_ (some 34) rfl rfl Try.func25 (by kernel_rfl) rfl #[.int .i64 a0_1,.int .i64 0,.int .i64 1000000000000] rfl (by (try simp only [List.map_toArray,List.map_cons,List.map_nil]);first|done|rfl|(simp only [List.length_drop,List.length_take];rfl)) ?_;(with_reducible refine (spec_l1In.calls a0_1 0 1000000000000 true _ A17.out).mono ?_);rintro e w' ⟨rfl,⟨nd,rfl⟩⟩;refine ⟨_,rfl,?_⟩))
       go_ret
       exact ⟨by first|rfl|(simp [*,errW_none,errW_some] <;> rfl),by repeat (first|(with_reducible first|exact HB.out|apply below_alloc|apply pw_below_drewN|apply below_drew1|refine below_set ?_ GE123.out)|exact HB.out)⟩
     ·replace c18:=Bool.eq_false_iff.mpr c18
      subst c18
      have H1:(some false) = some r:=by rw [if_neg (show ¬ (false = true) by decide)] at H;exact H
      clear H
      have H:=H1
      clear H1
      obtain rfl:=Option.some.inj H
      have hcz22_0:wc.cell? ⟨gb123,0,none⟩ = some (.int .i64 a0_0):=(blk_cell BK123.out 0).trans rfl
      have hcz22_1:wc.cell? ⟨gb123,1,none⟩ = some (.int .i64 a0_1):=(blk_cell BK123.out 1).trans rfl
      have hcz22_2:wc.cell? ⟨gb123,2,none⟩ = some (.string a0_2):=(blk_cell BK123.out 2).trans rfl
      have hcz22_3:wc.cell? ⟨gb123,3,none⟩ = some (.slice A0_3 l0_3.length c0_3):=(blk_cell BK123.out 3).trans rfl
      have hcz22_4:wc.cell? ⟨gb123,4,none⟩ = some (.slice A0_4 l0_4.length c0_4):=(blk_cell BK123.out 4).trans rfl
      have hfz22_0:=blk_frozen BK123.out 0
      have hfz22_1:=blk_frozen BK123.out 1
      have hfz22_2:=blk_frozen BK123.out 2
      have hfz22_3:=blk_frozen BK123.out 3
      have hfz22_4:=blk_frozen BK123.out 4
      go_wp2_with (first|((with_reducible refine gate_callee (f:=25) rfl ?_);refine goesL_ (some 34) rfl rfl Try.func25 (by kernel_rfl) rfl #[.int .i64 a0_1,.int .i64 0,.int .i64 1000000000000] rfl (by (try simp only [List.map_toArray,List.map_cons,List.map_nil]);first|done|rfl|(simp only [List.length_drop,List.length_take];rfl)) ?_;(with_reducible refine (spec_l1In.calls a0_1 0 1000000000000 false _ A17.out).mono ?_);rintro e w' ⟨rfl,⟨nd,rfl⟩⟩;refine ⟨_,rfl,?_⟩))
      go_ret
      exact ⟨by first|rfl|(simp [*,errW_none,errW_some] <;> rfl),by repeat (first|(with_reducible first|exact HB.out|apply below_alloc|apply pw_below_drewN|apply below_drew1|refine below_set ?_ GE123.out)|exact HB.out)⟩
    ·rw [if_neg c16] at H
     have c16b0:(a0_0 == 1) = false:=beq_eq_false_iff_ne.mpr c16
     have c16b1:(a0_0 != 1) = true:=bne_iff_ne.mpr c16
     by_cases c23:a0_0 = 2
     ·rw [if_pos c23] at H
      have c23b0:(a0_0 == 2) = true:=beq_iff_eq.mpr c23
      have c23b1:(a0_0 != 2) = false:=bne_eq_false_iff_eq.mpr c23
      clear c23
      replace H:=Option.bind_eq_some_iff.mp H
      obtain ⟨t125,A240,H⟩:=H
      replace H:(if t125 = true then (some ((l0_3.length:Int) == 0)) else (some false)) = some r:=H
      have A24:=Aside0.mk A240
      clear A240
      by_cases c25:t125 = true
      ·subst c25
       have H1:(some ((l0_3.length:Int) == 0)) = some r:=by rw [if_pos rfl] at H;exact H
       clear H
       have H:=H1
       clear H1
       obtain rfl:=Option.some.inj H
       have hcz26_0:wc.cell? ⟨gb123,0,none⟩ = some (.int .i64 a0_0):=(blk_cell BK123.out 0).trans rfl
       have hcz26_1:wc.cell? ⟨gb123,1,none⟩ = some (.int .i64 a0_1):=(blk_cell BK123.out 1).trans rfl
       have hcz26_2:wc.cell? ⟨gb123,2,none⟩ = some (.string a0_2):=(blk_cell BK123.out 2).trans rfl
       have hcz26_3:wc.cell? ⟨gb123,3,none⟩ = some (.slice A0_3 l0_3.length c0_3):=(blk_cell BK123.out 3).trans rfl
       have hcz26_4:wc.cell? ⟨gb123,4,none⟩ = some (.slice A0_4 l0_4.length c0_4):=(blk_cell BK123.out 4).trans rfl
       have hfz26_0:=blk_frozen BK123.out 0
       have hfz26_1:=blk_frozen BK123.out 1
       have hfz26_2:=blk_frozen BK123.out 2
       have hfz26_3:=blk_frozen BK123.out 3
       have hfz26_4:=blk_frozen BK123.out 4
       go_wp2_with (first|((with_reducible refine gate_callee (f:=26) rfl ?_);refine goesL_ (some 48) rfl rfl Try.func26 (by kernel_rfl) rfl #[.string a0_2] rfl (by (try simp only [List.map_toArray,List.map_cons,List.map_nil]);first|done|rfl|(simp only [List.length_drop,List.length_take];rfl)) ?_;(with_reducible refine (spec_l4Atom.calls kj2 a0_2 true _ A24.out).mono ?_);rintro e w' ⟨rfl,⟨nd,rfl⟩⟩;refine ⟨_,rfl,?_⟩))
       go_ret
       exact ⟨by first|rfl|(simp [*,errW_none,errW_some] <;> rfl),by repeat (first|(with_reducible first|exact HB.out|apply below_alloc|apply pw_below_drewN|apply below_drew1|refine below_set ?_ GE123.out)|exact HB.out)⟩
      ·replace c25:=Bool.eq_false_iff.mpr c25
       subst c25
       have H1:(some false) = some r:=by rw [if_neg (show ¬ (false = true) by decide)] at H;exact H
       clear H
       have H:=H1
       clear H1
       obtain rfl:=Option.some.inj H
       have hcz27_0:wc.cell? ⟨gb123,0,none⟩ = some (.int .i64 a0_0):=(blk_cell BK123.out 0).trans rfl
       have hcz27_1:wc.cell? ⟨gb123,1,none⟩ = some (.int .i64 a0_1):=(blk_cell BK123.out 1).trans rfl
       have hcz27_2:wc.cell? ⟨gb123,2,none⟩ = some (.string a0_2):=(blk_cell BK123.out 2).trans rfl
       have hcz27_3:wc.cell? ⟨gb123,3,none⟩ = some (.slice A0_3 l0_3.length c0_3):=(blk_cell BK123.out 3).trans rfl
       have hcz27_4:wc.cell? ⟨gb123,4,none⟩ = some (.slice A0_4 l0_4.length c0_4):=(blk_cell BK123.out 4).trans rfl
       have hfz27_0:=blk_frozen BK123.out 0
       have hfz27_1:=blk_frozen BK123.out 1
       have hfz27_2:=blk_frozen BK123.out 2
       have hfz27_3:=blk_frozen BK123.out 3
       have hfz27_4:=blk_frozen BK123.out 4
       go_wp2_with (first|((with_reducible refine gate_callee (f:=26) rfl ?_);refine goesL_ (some 48) rfl rfl Try.func26 (by kernel_rfl) rfl #[.string a0_2] rfl (by (try simp only [List.map_toArray,List.map_cons,List.map_nil]);first|done|rfl|(simp only [List.length_drop,List.length_take];rfl)) ?_;(with_reducible refine (spec_l4Atom.calls kj2 a0_2 false _ A24.out).mono ?_);rintro e w' ⟨rfl,⟨nd,rfl⟩⟩;refine ⟨_,rfl,?_⟩))
       go_ret
       exact ⟨by first|rfl|(simp [*,errW_none,errW_some] <;> rfl),by repeat (first|(with_reducible first|exact HB.out|apply below_alloc|apply pw_below_drewN|apply below_drew1|refine below_set ?_ GE123.out)|exact HB.out)⟩
     ·rw [if_neg c23] at H
      have c23b0:(a0_0 == 2) = false:=beq_eq_false_iff_ne.mpr c23
      have c23b1:(a0_0 != 2) = true:=bne_iff_ne.mpr c23
      by_cases c28:a0_0 = 3
      ·rw [if_pos c28] at H
       have c28b0:(a0_0 == 3) = true:=beq_iff_eq.mpr c28
       have c28b1:(a0_0 != 3) = false:=bne_eq_false_iff_eq.mpr c28
       clear c28
       replace H:=Option.bind_eq_some_iff.mp H
       obtain ⟨t126,A290,H⟩:=H
       replace H:(if t126 = true then (if (l0_3.length:Int) = 0 then (if a1 = true then (some true) else (some (a0_2.toList != ([95]:List UInt8)))) else (some false)) else (some false)) = some r:=H
       have A29:=Aside0.mk A290
       clear A290
       by_cases c30:t126 = true
       ·subst c30
        have H1:(if (l0_3.length:Int) = 0 then (if a1 = true then (some true) else (some (a0_2.toList != ([95]:List UInt8)))) else (some false)) = some r:=by rw [if_pos rfl] at H;exact H
        clear H
        have H:=H1
        clear H1
        by_cases c31:(l0_3.length:Int) = 0
        ·rw [if_pos c31] at H
         have c31b0:((l0_3.length:Int) == 0) = true:=beq_iff_eq.mpr c31
         have c31b1:((l0_3.length:Int) != 0) = false:=bne_eq_false_iff_eq.mpr c31
         clear c31
         by_cases c32:a1 = true
         ·subst c32
          have H1:(some true) = some r:=by rw [if_pos rfl] at H;exact H
          clear H
          have H:=H1
          clear H1
          obtain rfl:=Option.some.inj H
          have hcz33_0:wc.cell? ⟨gb123,0,none⟩ = some (.int .i64 a0_0):=(blk_cell BK123.out 0).trans rfl
          have hcz33_1:wc.cell? ⟨gb123,1,none⟩ = some (.int .i64 a0_1):=(blk_cell BK123.out 1).trans rfl
          have hcz33_2:wc.cell? ⟨gb123,2,none⟩ = some (.string a0_2):=(blk_cell BK123.out 2).trans rfl
          have hcz33_3:wc.cell? ⟨gb123,3,none⟩ = some (.slice A0_3 l0_3.length c0_3):=(blk_cell BK123.out 3).trans rfl
          have hcz33_4:wc.cell? ⟨gb123,4,none⟩ = some (.slice A0_4 l0_4.length c0_4):=(blk_cell BK123.out 4).trans rfl
          have hfz33_0:=blk_frozen BK123.out 0
          have hfz33_1:=blk_frozen BK123.out 1
          have hfz33_2:=blk_frozen BK123.out 2
          have hfz33_3:=blk_frozen BK123.out 3
          have hfz33_4:=blk_frozen BK123.out 4
          go_wp2_with (first|((with_reducible refine gate_callee (f:=27) rfl ?_);refine goesL_ (some 57) rfl rfl Try.func27 (by kernel_rfl) rfl #[.string a0_2] rfl (by (try simp only [List.map_toArray,List.map_cons,List.map_nil]);first|done|rfl|(simp only [List.length_drop,List.length_take];rfl)) ?_;(with_reducible refine (spec_l3VarOk.calls kj2 a0_2 true _ A29.out).mono ?_);rintro e w' ⟨rfl,⟨nd,rfl⟩⟩;refine ⟨_,rfl,?_⟩))
          go_ret
          exact ⟨by first|rfl|(simp [*,errW_none,errW_some] <;> rfl),by repeat (first|(with_reducible first|exact HB.out|apply below_alloc|apply pw_below_drewN|apply below_drew1|refine below_set ?_ GE123.out)|exact HB.out)⟩
         ·replace c32:=Bool.eq_false_iff.mpr c32
          subst c32
          have H1:(some (a0_2.toList != ([95]:List UInt8))) = some r:=by rw [if_neg (show ¬ (false = true) by decide)] at H;exact H
          clear H
          have H:=H1
          clear H1
          obtain rfl:=Option.some.inj H
          have hcz34_0:wc.cell? ⟨gb123,0,none⟩ = some (.int .i64 a0_0):=(blk_cell BK123.out 0).trans rfl
          have hcz34_1:wc.cell? ⟨gb123,1,none⟩ = some (.int .i64 a0_1):=(blk_cell BK123.out 1).trans rfl
          have hcz34_2:wc.cell? ⟨gb123,2,none⟩ = some (.string a0_2):=(blk_cell BK123.out 2).trans rfl
          have hcz34_3:wc.cell? ⟨gb123,3,none⟩ = some (.slice A0_3 l0_3.length c0_3):=(blk_cell BK123.out 3).trans rfl
          have hcz34_4:wc.cell? ⟨gb123,4,none⟩ = some (.slice A0_4 l0_4.length c0_4):=(blk_cell BK123.out 4).trans rfl
          have hfz34_0:=blk_frozen BK123.out 0
          have hfz34_1:=blk_frozen BK123.out 1
          have hfz34_2:=blk_frozen BK123.out 2
          have hfz34_3:=blk_frozen BK123.out 3
          have hfz34_4:=blk_frozen BK123.out 4
          go_wp2_with (first|((with_reducible refine gate_callee (f:=27) rfl ?_);refine goesL_ (some 57) rfl rfl Try.func27 (by kernel_rfl) rfl #[.string a0_2] rfl (by (try simp only [List.map_toArray,List.map_cons,List.map_nil]);first|done|rfl|(simp only [List.length_drop,List.length_take];rfl)) ?_;(with_reducible refine (spec_l3VarOk.calls kj2 a0_2 true _ A29.out).mono ?_);rintro e w' ⟨rfl,⟨nd,rfl⟩⟩;refine ⟨_,rfl,?_⟩))
          go_ret
          exact ⟨by first|rfl|(simp [*,errW_none,errW_some] <;> rfl),by repeat (first|(with_reducible first|exact HB.out|apply below_alloc|apply pw_below_drewN|apply below_drew1|refine below_set ?_ GE123.out)|exact HB.out)⟩
        ·rw [if_neg c31] at H
         have c31b0:((l0_3.length:Int) == 0) = false:=beq_eq_false_iff_ne.mpr c31
         have c31b1:((l0_3.length:Int) != 0) = true:=bne_iff_ne.mpr c31
         have c31b2 : ¬ (l0_3 = []):=fun h_=>c31 (by rw [h_];rfl)
         obtain rfl:=Option.some.inj H
         have hcz35_0:wc.cell? ⟨gb123,0,none⟩ = some (.int .i64 a0_0):=(blk_cell BK123.out 0).trans rfl
         have hcz35_1:wc.cell? ⟨gb123,1,none⟩ = some (.int .i64 a0_1):=(blk_cell BK123.out 1).trans rfl
         have hcz35_2:wc.cell? ⟨gb123,2,none⟩ = some (.string a0_2):=(blk_cell BK123.out 2).trans rfl
         have hcz35_3:wc.cell? ⟨gb123,3,none⟩ = some (.slice A0_3 l0_3.length c0_3):=(blk_cell BK123.out 3).trans rfl
         have hcz35_4:wc.cell? ⟨gb123,4,none⟩ = some (.slice A0_4 l0_4.length c0_4):=(blk_cell BK123.out 4).trans rfl
         have hfz35_0:=blk_frozen BK123.out 0
         have hfz35_1:=blk_frozen BK123.out 1
         have hfz35_2:=blk_frozen BK123.out 2
         have hfz35_3:=blk_frozen BK123.out 3
         have hfz35_4:=blk_frozen BK123.out 4
         go_wp2_with (first|((with_reducible refine gate_callee (f:=27) rfl ?_);refine goesL_ (some 57) rfl rfl Try.func27 (by kernel_rfl) rfl #[.string a0_2] rfl (by (try simp only [List.map_toArray,List.map_cons,List.map_nil]);first|done|rfl|(simp only [List.length_drop,List.length_take];rfl)) ?_;(with_reducible refine (spec_l3VarOk.calls kj2 a0_2 true _ A29.out).mono ?_);rintro e w' ⟨rfl,⟨nd,rfl⟩⟩;refine ⟨_,rfl,?_⟩))
         go_ret
         exact ⟨by first|rfl|(simp [*,errW_none,errW_some] <;> rfl),by repeat (first|(with_reducible first|exact HB.out|apply below_alloc|apply pw_below_drewN|apply below_drew1|refine below_set ?_ GE123.out)|exact HB.out)⟩
       ·replace c30:=Bool.eq_false_iff.mpr c30
        subst c30
        have H1:(some false) = some r:=by rw [if_neg (show ¬ (false = true) by decide)] at H;exact H
        clear H
        have H:=H1
        clear H1
        obtain rfl:=Option.some.inj H
        have hcz36_0:wc.cell? ⟨gb123,0,none⟩ = some (.int .i64 a0_0):=(blk_cell BK123.out 0).trans rfl
        have hcz36_1:wc.cell? ⟨gb123,1,none⟩ = some (.int .i64 a0_1):=(blk_cell BK123.out 1).trans rfl
        have hcz36_2:wc.cell? ⟨gb123,2,none⟩ = some (.string a0_2):=(blk_cell BK123.out 2).trans rfl
        have hcz36_3:wc.cell? ⟨gb123,3,none⟩ = some (.slice A0_3 l0_3.length c0_3):=(blk_cell BK123.out 3).trans rfl
        have hcz36_4:wc.cell? ⟨gb123,4,none⟩ = some (.slice A0_4 l0_4.length c0_4):=(blk_cell BK123.out 4).trans rfl
        have hfz36_0:=blk_frozen BK123.out 0
        have hfz36_1:=blk_frozen BK123.out 1
        have hfz36_2:=blk_frozen BK123.out 2
        have hfz36_3:=blk_frozen BK123.out 3
        have hfz36_4:=blk_frozen BK123.out 4
        go_wp2_with (first|((with_reducible refine gate_callee (f:=27) rfl ?_);refine goesL_ (some 57) rfl rfl Try.func27 (by kernel_rfl) rfl #[.string a0_2] rfl (by (try simp only [List.map_toArray,List.map_cons,List.map_nil]);first|done|rfl|(simp only [List.length_drop,List.length_take];rfl)) ?_;(with_reducible refine (spec_l3VarOk.calls kj2 a0_2 false _ A29.out).mono ?_);rintro e w' ⟨rfl,⟨nd,rfl⟩⟩;refine ⟨_,rfl,?_⟩))
        go_ret
        exact ⟨by first|rfl|(simp [*,errW_none,errW_some] <;> rfl),by repeat (first|(with_reducible first|exact HB.out|apply below_alloc|apply pw_below_drewN|apply below_drew1|refine below_set ?_ GE123.out)|exact HB.out)⟩
      ·rw [if_neg c28] at H
       have c28b0:(a0_0 == 3) = false:=beq_eq_false_iff_ne.mpr c28
       have c28b1:(a0_0 != 3) = true:=bne_iff_ne.mpr c28
       have HC37:=Aside0.mk H
       clear H
       have hcz38_0:wc.cell? ⟨gb123,0,none⟩ = some (.int .i64 a0_0):=(blk_cell BK123.out 0).trans rfl
       have hcz38_1:wc.cell? ⟨gb123,1,none⟩ = some (.int .i64 a0_1):=(blk_cell BK123.out 1).trans rfl
       have hcz38_2:wc.cell? ⟨gb123,2,none⟩ = some (.string a0_2):=(blk_cell BK123.out 2).trans rfl
       have hcz38_3:wc.cell? ⟨gb123,3,none⟩ = some (.slice A0_3 l0_3.length c0_3):=(blk_cell BK123.out 3).trans rfl
       have hcz38_4:wc.cell? ⟨gb123,4,none⟩ = some (.slice A0_4 l0_4.length c0_4):=(blk_cell BK123.out 4).trans rfl
       have hfz38_0:=blk_frozen BK123.out 0
       have hfz38_1:=blk_frozen BK123.out 1
       have hfz38_2:=blk_frozen BK123.out 2
       have hfz38_3:=blk_frozen BK123.out 3
       have hfz38_4:=blk_frozen BK123.out 4
       go_upto_if 70 with (fail)
       go_cut [70] (fun v70 wc=>∃ (kq:Nat) (x70_36:Bool),v70 = .bool x70_36∧Aside0 (spec_l4Shape.j1 kq a1 (l0_3.length:Int) a0_0 x70_36 a0_0 a0_1 a0_2 l0_3 l0_4 = some r)∧Aside0 (kq≤kj2)∧Aside0 (wc.heap[gb123]? = some (.cells #[.int .i64 a0_0,.int .i64 a0_1,.string a0_2,(.slice A0_3 l0_3.length c0_3),(.slice A0_4 l0_4.length c0_4)] 31 (0,0)))∧Aside0 (Below w.heap.size w wc))
       case first =>
        have H:=HC37.out
        clear HC37
        by_cases c39:a0_0 = 4
        ·rw [if_pos c39] at H
         have c39b0:(a0_0 == 4) = true:=beq_iff_eq.mpr c39
         have c39b1:(a0_0 != 4) = false:=bne_eq_false_iff_eq.mpr c39
         clear c39
         (first|rw [c39b0]|(simp only [i64_w,i32_w];rw [c39b0])|(simp only [c39b2,Bool.not_true,Bool.not_false])|skip)
         have H':=Aside0.mk H
         clear H
         go_wp2
         go_meet
         case rel=>exact ⟨_,((a0_0 == 4)),(by first|rfl|(simp;done)|(simp [*];done)),H',⟨by have:=HJ2.out;first|omega|exact Nat.le_refl _⟩,⟨by (with_reducible repeat (first|refine blk_drewN ?_ _|refine blk_drew ?_|refine blk_alloc ?_ _));exact BK123.out⟩,⟨by repeat (first|(with_reducible first|exact HB.out|apply below_alloc|apply pw_below_drewN|apply below_drew1|refine below_set ?_ GE123.out)|exact HB.out)⟩⟩
        ·rw [if_neg c39] at H
         have c39b0:(a0_0 == 4) = false:=beq_eq_false_iff_ne.mpr c39
         have c39b1:(a0_0 != 4) = true:=bne_iff_ne.mpr c39
         (first|rw [c39b0]|(simp only [i64_w,i32_w];rw [c39b0])|(simp only [c39b2,Bool.not_true,Bool.not_false])|skip)
         have H':=Aside0.mk H
         clear H
         go_wp2
         go_meet
         case rel=>exact ⟨_,((a0_0 == 5)),(by first|rfl|(simp;done)|(simp [*];done)),H',⟨by have:=HJ2.out;first|omega|exact Nat.le_refl _⟩,⟨by (with_reducible repeat (first|refine blk_drewN ?_ _|refine blk_drew ?_|refine blk_alloc ?_ _));exact BK123.out⟩,⟨by repeat (first|(with_reducible first|exact HB.out|apply below_alloc|apply pw_below_drewN|apply below_drew1|refine below_set ?_ GE123.out)|exact HB.out)⟩⟩
       case rest =>
        clear HC37
        try clear c1
        try clear c2
        try clear p2
        try clear c3
        try clear c6
        try clear c6b0
        try clear c6b1
        try clear c6b2
        try clear c7
        try clear c7b0
        try clear c7b1
        try clear c10
        try clear c10b0
        try clear c10b1
        try clear c12
        try clear c12b0
        try clear c12b1
        try clear c15
        try clear c16
        try clear c16b0
        try clear c16b1
        try clear c18
        try clear c19
        try clear c19b0
        try clear c19b1
        try clear c23
        try clear c23b0
        try clear c23b1
        try clear c25
        try clear c26
        try clear c27
        try clear c28
        try clear c28b0
        try clear c28b1
        try clear c30
        try clear c31
        try clear c31b0
        try clear c31b1
        try clear c31b2
        try clear c32
        try clear c39
        try clear c39b0
        try clear c39b1
        try clear c39b2
        try clear hcz11_0
        try clear hcz11_1
        try clear hcz11_2
        try clear hcz11_3
        try clear hcz11_4
        try clear hcz13_0
        try clear hcz13_1
        try clear hcz13_2
        try clear hcz13_3
        try clear hcz13_4
        try clear hcz14_0
        try clear hcz14_1
        try clear hcz14_2
        try clear hcz14_3
        try clear hcz14_4
        try clear hcz20_0
        try clear hcz20_1
        try clear hcz20_2
        try clear hcz20_3
        try clear hcz20_4
        try clear hcz21_0
        try clear hcz21_1
        try clear hcz21_2
        try clear hcz21_3
        try clear hcz21_4
        try clear hcz22_0
        try clear hcz22_1
        try clear hcz22_2
        try clear hcz22_3
        try clear hcz22_4
        try clear hcz26_0
        try clear hcz26_1
        try clear hcz26_2
        try clear hcz26_3
        try clear hcz26_4
        try clear hcz27_0
        try clear hcz27_1
        try clear hcz27_2
        try clear hcz27_3
        try clear hcz27_4
        try clear hcz33_0
        try clear hcz33_1
        try clear hcz33_2
        try clear hcz33_3
        try clear hcz33_4
        try clear hcz34_0
        try clear hcz34_1
        try clear hcz34_2
        try clear hcz34_3
        try clear hcz34_4
        try clear hcz35_0
        try clear hcz35_1
        try clear hcz35_2
        try clear hcz35_3
        try clear hcz35_4
        try clear hcz36_0
        try clear hcz36_1
        try clear hcz36_2
        try clear hcz36_3
        try clear hcz36_4
        try clear hcz38_0
        try clear hcz38_1
        try clear hcz38_2
        try clear hcz38_3
        try clear hcz38_4
        try clear hcz5_0
        try clear hcz5_1
        try clear hcz5_2
        try clear hcz5_3
        try clear hcz5_4
        try clear hcz8_0
        try clear hcz8_1
        try clear hcz8_2
        try clear hcz8_3
        try clear hcz8_4
        try clear hcz9_0
        try clear hcz9_1
        try clear hcz9_2
        try clear hcz9_3
        try clear hcz9_4
        try clear hfz11_0
        try clear hfz11_1
        try clear hfz11_2
        try clear hfz11_3
        try clear hfz11_4
        try clear hfz13_0
        try clear hfz13_1
        try clear hfz13_2
        try clear hfz13_3
        try clear hfz13_4
        try clear hfz14_0
        try clear hfz14_1
        try clear hfz14_2
        try clear hfz14_3
        try clear hfz14_4
        try clear hfz20_0
        try clear hfz20_1
        try clear hfz20_2
        try clear hfz20_3
        try clear hfz20_4
        try clear hfz21_0
        try clear hfz21_1
        try clear hfz21_2
        try clear hfz21_3
        try clear hfz21_4
        try clear hfz22_0
        try clear hfz22_1
        try clear hfz22_2
        try clear hfz22_3
        try clear hfz22_4
        try clear hfz26_0
        try clear hfz26_1
        try clear hfz26_2
        try clear hfz26_3
        try clear hfz26_4
        try clear hfz27_0
        try clear hfz27_1
        try clear hfz27_2
        try clear hfz27_3
        try clear hfz27_4
        try clear hfz33_0
        try clear hfz33_1
        try clear hfz33_2
        try clear hfz33_3
        try clear hfz33_4
        try clear hfz34_0
        try clear hfz34_1
        try clear hfz34_2
        try clear hfz34_3
        try clear hfz34_4
        try clear hfz35_0
        try clear hfz35_1
        try clear hfz35_2
        try clear hfz35_3
        try clear hfz35_4
        try clear hfz36_0
        try clear hfz36_1
        try clear hfz36_2
        try clear hfz36_3
        try clear hfz36_4
        try clear hfz38_0
        try clear hfz38_1
        try clear hfz38_2
        try clear hfz38_3
        try clear hfz38_4
        try clear hfz5_0
        try clear hfz5_1
        try clear hfz5_2
        try clear hfz5_3
        try clear hfz5_4
        try clear hfz8_0
        try clear hfz8_1
        try clear hfz8_2
        try clear hfz8_3
        try clear hfz8_4
        try clear hfz9_0
        try clear hfz9_1
        try clear hfz9_2
        try clear hfz9_3
        try clear hfz9_4
        try clear p2
        try clear BK123
        try clear HB
        obtain ⟨kq,x70_36,rfl,HA,HJ36,BK123,HB⟩:=hcut
        cases kq with
        | zero=>exact absurd HA.out (by simp [spec_l4Shape.j1])
        | succ kj36 =>
         have H:=HA.out
         clear HA
         simp only [spec_l4Shape.j1] at H
         by_cases c40:x70_36 = true
         ·subst c40
          have H1:(if a0_2.toList = ([]:List UInt8) then (some (decide ((l0_3.length:Int)≤20))) else (some false)) = some r:=by rw [if_pos rfl] at H;exact H
          clear H
          have H:=H1
          clear H1
          by_cases c41:a0_2.toList = ([]:List UInt8)
          ·rw [if_pos c41] at H
           have c41b0:(a0_2.toList == ([]:List UInt8)) = true:=beq_iff_eq.mpr c41
           have c41b1:(a0_2.toList != ([]:List UInt8)) = false:=bne_eq_false_iff_eq.mpr c41
           clear c41
           obtain rfl:=Option.some.inj H
           have hcz42_0:wc.cell? ⟨gb123,0,none⟩ = some (.int .i64 a0_0):=(blk_cell BK123.out 0).trans rfl
           have hcz42_1:wc.cell? ⟨gb123,1,none⟩ = some (.int .i64 a0_1):=(blk_cell BK123.out 1).trans rfl
           have hcz42_2:wc.cell? ⟨gb123,2,none⟩ = some (.string a0_2):=(blk_cell BK123.out 2).trans rfl
           have hcz42_3:wc.cell? ⟨gb123,3,none⟩ = some (.slice A0_3 l0_3.length c0_3):=(blk_cell BK123.out 3).trans rfl
           have hcz42_4:wc.cell? ⟨gb123,4,none⟩ = some (.slice A0_4 l0_4.length c0_4):=(blk_cell BK123.out 4).trans rfl
           have hfz42_0:=blk_frozen BK123.out 0
           have hfz42_1:=blk_frozen BK123.out 1
           have hfz42_2:=blk_frozen BK123.out 2
           have hfz42_3:=blk_frozen BK123.out 3
           have hfz42_4:=blk_frozen BK123.out 4
           go_wp2
           go_ret
           exact ⟨by first|rfl|(simp [*,errW_none,errW_some] <;> rfl),by repeat (first|(with_reducible first|exact HB.out|apply below_alloc|apply pw_below_drewN|apply below_drew1|refine below_set ?_ GE123.out)|exact HB.out)⟩
          ·rw [if_neg c41] at H
           have c41b0:(a0_2.toList == ([]:List UInt8)) = false:=beq_eq_false_iff_ne.mpr c41
           have c41b1:(a0_2.toList != ([]:List UInt8)) = true:=bne_iff_ne.mpr c41
           obtain rfl:=Option.some.inj H
           have hcz43_0:wc.cell? ⟨gb123,0,none⟩ = some (.int .i64 a0_0):=(blk_cell BK123.out 0).trans rfl
           have hcz43_1:wc.cell? ⟨gb123,1,none⟩ = some (.int .i64 a0_1):=(blk_cell BK123.out 1).trans rfl
           have hcz43_2:wc.cell? ⟨gb123,2,none⟩ = some (.string a0_2):=(blk_cell BK123.out 2).trans rfl
           have hcz43_3:wc.cell? ⟨gb123,3,none⟩ = some (.slice A0_3 l0_3.length c0_3):=(blk_cell BK123.out 3).trans rfl
           have hcz43_4:wc.cell? ⟨gb123,4,none⟩ = some (.slice A0_4 l0_4.length c0_4):=(blk_cell BK123.out 4).trans rfl
           have hfz43_0:=blk_frozen BK123.out 0
           have hfz43_1:=blk_frozen BK123.out 1
           have hfz43_2:=blk_frozen BK123.out 2
           have hfz43_3:=blk_frozen BK123.out 3
           have hfz43_4:=blk_frozen BK123.out 4
           go_wp2
           go_ret
           exact ⟨by first|rfl|(simp [*,errW_none,errW_some] <;> rfl),by repeat (first|(with_reducible first|exact HB.out|apply below_alloc|apply pw_below_drewN|apply below_drew1|refine below_set ?_ GE123.out)|exact HB.out)⟩
         ·replace c40:=Bool.eq_false_iff.mpr c40
          subst c40
          have H1:(if a0_0 = 6 then (if a0_2.toList = ([]:List UInt8) then ((spec_l1In.f (l0_3.length:Int) 2 6).bind fun t127=>(some t127)) else (some false)) else (if a0_0 = 7 then (if a1 = true then (some false) else ((spec_l4Op.f a0_2).bind fun t128=>(if t128 = true then (some ((l0_3.length:Int) == 2)) else (some false)))) else (if a0_0 = 8 then (if a1 = true then (some false) else ((spec_l4Atom.f kj36 a0_2).bind fun t129=>(if t129 = true then (some (decide ((l0_3.length:Int)≤4))) else (some false)))) else (if a0_0 = 9 then (if a1 = true then (some false) else (if a0_2.toList = ([]:List UInt8) then (if (l0_3.length:Int) = 1 then ((spec_l1In.f (l0_4.length:Int) 1 6).bind fun t130=>(some t130)) else (some false)) else (some false))) else (some false))))) = some r:=by rw [if_neg (show ¬ (false = true) by decide)] at H;exact H
          clear H
          have H:=H1
          clear H1
          by_cases c44:a0_0 = 6
          ·rw [if_pos c44] at H
           have c44b0:(a0_0 == 6) = true:=beq_iff_eq.mpr c44
           have c44b1:(a0_0 != 6) = false:=bne_eq_false_iff_eq.mpr c44
           clear c44
           by_cases c45:a0_2.toList = ([]:List UInt8)
           ·rw [if_pos c45] at H
            have c45b0:(a0_2.toList == ([]:List UInt8)) = true:=beq_iff_eq.mpr c45
            have c45b1:(a0_2.toList != ([]:List UInt8)) = false:=bne_eq_false_iff_eq.mpr c45
            clear c45
            replace H:=Option.bind_eq_some_iff.mp H
            obtain ⟨t127,A460,H⟩:=H
            replace H:(some t127) = some r:=H
            have A46:=Aside0.mk A460
            clear A460
            obtain rfl:=Option.some.inj H
            have hcz47_0:wc.cell? ⟨gb123,0,none⟩ = some (.int .i64 a0_0):=(blk_cell BK123.out 0).trans rfl
            have hcz47_1:wc.cell? ⟨gb123,1,none⟩ = some (.int .i64 a0_1):=(blk_cell BK123.out 1).trans rfl
            have hcz47_2:wc.cell? ⟨gb123,2,none⟩ = some (.string a0_2):=(blk_cell BK123.out 2).trans rfl
            have hcz47_3:wc.cell? ⟨gb123,3,none⟩ = some (.slice A0_3 l0_3.length c0_3):=(blk_cell BK123.out 3).trans rfl
            have hcz47_4:wc.cell? ⟨gb123,4,none⟩ = some (.slice A0_4 l0_4.length c0_4):=(blk_cell BK123.out 4).trans rfl
            have hfz47_0:=blk_frozen BK123.out 0
            have hfz47_1:=blk_frozen BK123.out 1
            have hfz47_2:=blk_frozen BK123.out 2
            have hfz47_3:=blk_frozen BK123.out 3
            have hfz47_4:=blk_frozen BK123.out 4
            go_wp2_with (first|(go_at_call 25;(with_reducible refine (spec_l1In.calls (l0_3.length:Int) 2 6 t127 _ A46.out).mono ?_);rintro e w' ⟨rfl,⟨nd,rfl⟩⟩))
            go_ret
            exact ⟨by first|rfl|(simp [*,errW_none,errW_some] <;> rfl),by repeat (first|(with_reducible first|exact HB.out|apply below_alloc|apply pw_below_drewN|apply below_drew1|refine below_set ?_ GE123.out)|exact HB.out)⟩
           ·rw [if_neg c45] at H
            have c45b0:(a0_2.toList == ([]:List UInt8)) = false:=beq_eq_false_iff_ne.mpr c45
            have c45b1:(a0_2.toList != ([]:List UInt8)) = true:=bne_iff_ne.mpr c45
            obtain rfl:=Option.some.inj H
            have hcz48_0:wc.cell? ⟨gb123,0,none⟩ = some (.int .i64 a0_0):=(blk_cell BK123.out 0).trans rfl
            have hcz48_1:wc.cell? ⟨gb123,1,none⟩ = some (.int .i64 a0_1):=(blk_cell BK123.out 1).trans rfl
            have hcz48_2:wc.cell? ⟨gb123,2,none⟩ = some (.string a0_2):=(blk_cell BK123.out 2).trans rfl
            have hcz48_3:wc.cell? ⟨gb123,3,none⟩ = some (.slice A0_3 l0_3.length c0_3):=(blk_cell BK123.out 3).trans rfl
            have hcz48_4:wc.cell? ⟨gb123,4,none⟩ = some (.slice A0_4 l0_4.length c0_4):=(blk_cell BK123.out 4).trans rfl
            have hfz48_0:=blk_frozen BK123.out 0
            have hfz48_1:=blk_frozen BK123.out 1
            have hfz48_2:=blk_frozen BK123.out 2
            have hfz48_3:=blk_frozen BK123.out 3
            have hfz48_4:=blk_frozen BK123.out 4
            go_wp2
            go_ret
            exact ⟨by first|rfl|(simp [*,errW_none,errW_some] <;> rfl),by repeat (first|(with_reducible first|exact HB.out|apply below_alloc|apply pw_below_drewN|apply below_drew1|refine below_set ?_ GE123.out)|exact HB.out)⟩
          ·rw [if_neg c44] at H
           have c44b0:(a0_0 == 6) = false:=beq_eq_false_iff_ne.mpr c44
           have c44b1:(a0_0 != 6) = true:=bne_iff_ne.mpr c44
           by_cases c49:a0_0 = 7
           ·rw [if_pos c49] at H
            have c49b0:(a0_0 == 7) = true:=beq_iff_eq.mpr c49
            have c49b1:(a0_0 != 7) = false:=bne_eq_false_iff_eq.mpr c49
            clear c49
            by_cases c50:a1 = true
            ·subst c50
             have H1:(some false) = some r:=by rw [if_pos rfl] at H;exact H
             clear H
             have H:=H1
             clear H1
             obtain rfl:=Option.some.inj H
             go_wp2
             go_ret
             exact ⟨by first|rfl|(simp [*,errW_none,errW_some] <;> rfl),by repeat (first|(with_reducible first|exact HB.out|apply below_alloc|apply pw_below_drewN|apply below_drew1|refine below_set ?_ GE123.out)|exact HB.out)⟩
            ·replace c50:=Bool.eq_false_iff.mpr c50
             subst c50
             have H1:((spec_l4Op.f a0_2).bind fun t128=>(if t128 = true then (some ((l0_3.length:Int) == 2)) else (some false))) = some r:=by rw [if_neg (show ¬ (false = true) by decide)] at H;exact H
             clear H
             have H:=H1
             clear H1
             replace H:=Option.bind_eq_some_iff.mp H
             obtain ⟨t128,A510,H⟩:=H
             replace H:(if t128 = true then (some ((l0_3.length:Int) == 2)) else (some false)) = some r:=H
             have A51:=Aside0.mk A510
             clear A510
             by_cases c52:t128 = true
             ·subst c52
              have H1:(some ((l0_3.length:Int) == 2)) = some r:=by rw [if_pos rfl] at H;exact H
              clear H
              have H:=H1
              clear H1
              obtain rfl:=Option.some.inj H
              have hcz53_0:wc.cell? ⟨gb123,0,none⟩ = some (.int .i64 a0_0):=(blk_cell BK123.out 0).trans rfl
              have hcz53_1:wc.cell? ⟨gb123,1,none⟩ = some (.int .i64 a0_1):=(blk_cell BK123.out 1).trans rfl
              have hcz53_2:wc.cell? ⟨gb123,2,none⟩ = some (.string a0_2):=(blk_cell BK123.out 2).trans rfl
              have hcz53_3:wc.cell? ⟨gb123,3,none⟩ = some (.slice A0_3 l0_3.length c0_3):=(blk_cell BK123.out 3).trans rfl
              have hcz53_4:wc.cell? ⟨gb123,4,none⟩ = some (.slice A0_4 l0_4.length c0_4):=(blk_cell BK123.out 4).trans rfl
              have hfz53_0:=blk_frozen BK123.out 0
              have hfz53_1:=blk_frozen BK123.out 1
              have hfz53_2:=blk_frozen BK123.out 2
              have hfz53_3:=blk_frozen BK123.out 3
              have hfz53_4:=blk_frozen BK123.out 4
              go_wp2_with (first|(go_at_call 28;(with_reducible refine (spec_l4Op.calls a0_2 true _ A51.out).mono ?_);rintro e w' ⟨rfl,⟨nd,rfl⟩⟩))
              go_ret
              exact ⟨by first|rfl|(simp [*,errW_none,errW_some] <;> rfl),by repeat (first|(with_reducible first|exact HB.out|apply below_alloc|apply pw_below_drewN|apply below_drew1|refine below_set ?_ GE123.out)|exact HB.out)⟩
             ·replace c52:=Bool.eq_false_iff.mpr c52
              subst c52
              have H1:(some false) = some r:=by rw [if_neg (show ¬ (false = true) by decide)] at H;exact H
              clear H
              have H:=H1
              clear H1
              obtain rfl:=Option.some.inj H
              have hcz54_0:wc.cell? ⟨gb123,0,none⟩ = some (.int .i64 a0_0):=(blk_cell BK123.out 0).trans rfl
              have hcz54_1:wc.cell? ⟨gb123,1,none⟩ = some (.int .i64 a0_1):=(blk_cell BK123.out 1).trans rfl
              have hcz54_2:wc.cell? ⟨gb123,2,none⟩ = some (.string a0_2):=(blk_cell BK123.out 2).trans rfl
              have hcz54_3:wc.cell? ⟨gb123,3,none⟩ = some (.slice A0_3 l0_3.length c0_3):=(blk_cell BK123.out 3).trans rfl
              have hcz54_4:wc.cell? ⟨gb123,4,none⟩ = some (.slice A0_4 l0_4.length c0_4):=(blk_cell BK123.out 4).trans rfl
              have hfz54_0:=blk_frozen BK123.out 0
              have hfz54_1:=blk_frozen BK123.out 1
              have hfz54_2:=blk_frozen BK123.out 2
              have hfz54_3:=blk_frozen BK123.out 3
              have hfz54_4:=blk_frozen BK123.out 4
              go_wp2_with (first|(go_at_call 28;(with_reducible refine (spec_l4Op.calls a0_2 false _ A51.out).mono ?_);rintro e w' ⟨rfl,⟨nd,rfl⟩⟩))
              go_ret
              exact ⟨by first|rfl|(simp [*,errW_none,errW_some] <;> rfl),by repeat (first|(with_reducible first|exact HB.out|apply below_alloc|apply pw_below_drewN|apply below_drew1|refine below_set ?_ GE123.out)|exact HB.out)⟩
           ·rw [if_neg c49] at H
            have c49b0:(a0_0 == 7) = false:=beq_eq_false_iff_ne.mpr c49
            have c49b1:(a0_0 != 7) = true:=bne_iff_ne.mpr c49
            by_cases c55:a0_0 = 8
            ·rw [if_pos c55] at H
             have c55b0:(a0_0 == 8) = true:=beq_iff_eq.mpr c55
             have c55b1:(a0_0 != 8) = false:=bne_eq_false_iff_eq.mpr c55
             clear c55
             by_cases c56:a1 = true
             ·subst c56
              have H1:(some false) = some r:=by rw [if_pos rfl] at H;exact H
              clear H
              have H:=H1
              clear H1
              obtain rfl:=Option.some.inj H
              go_wp2
              go_ret
              exact ⟨by first|rfl|(simp [*,errW_none,errW_some] <;> rfl),by repeat (first|(with_reducible first|exact HB.out|apply below_alloc|apply pw_below_drewN|apply below_drew1|refine below_set ?_ GE123.out)|exact HB.out)⟩
             ·replace c56:=Bool.eq_false_iff.mpr c56
              subst c56
              have H1:((spec_l4Atom.f kj36 a0_2).bind fun t129=>(if t129 = true then (some (decide ((l0_3.length:Int)≤4))) else (some false))) = some r:=by rw [if_neg (show ¬ (false = true) by decide)] at H;exact H
              clear H
              have H:=H1
              clear H1
              replace H:=Option.bind_eq_some_iff.mp H
              obtain ⟨t129,A570,H⟩:=H
              replace H:(if t129 = true then (some (decide ((l0_3.length:Int)≤4))) else (some false)) = some r:=H
              have A57:=Aside0.mk A570
              clear A570
              by_cases c58:t129 = true
              ·subst c58
               have H1:(some (decide ((l0_3.length:Int)≤4))) = some r:=by rw [if_pos rfl] at H;exact H
               clear H
               have H:=H1
               clear H1
               obtain rfl:=Option.some.inj H
               have hcz59_0:wc.cell? ⟨gb123,0,none⟩ = some (.int .i64 a0_0):=(blk_cell BK123.out 0).trans rfl
               have hcz59_1:wc.cell? ⟨gb123,1,none⟩ = some (.int .i64 a0_1):=(blk_cell BK123.out 1).trans rfl
               have hcz59_2:wc.cell? ⟨gb123,2,none⟩ = some (.string a0_2):=(blk_cell BK123.out 2).trans rfl
               have hcz59_3:wc.cell? ⟨gb123,3,none⟩ = some (.slice A0_3 l0_3.length c0_3):=(blk_cell BK123.out 3).trans rfl
               have hcz59_4:wc.cell? ⟨gb123,4,none⟩ = some (.slice A0_4 l0_4.length c0_4):=(blk_cell BK123.out 4).trans rfl
               have hfz59_0:=blk_frozen BK123.out 0
               have hfz59_1:=blk_frozen BK123.out 1
               have hfz59_2:=blk_frozen BK123.out 2
               have hfz59_3:=blk_frozen BK123.out 3
               have hfz59_4:=blk_frozen BK123.out 4
               go_wp2_with (first|(go_at_call 26;(with_reducible refine (spec_l4Atom.calls kj36 a0_2 true _ A57.out).mono ?_);rintro e w' ⟨rfl,⟨nd,rfl⟩⟩))
               go_ret
               exact ⟨by first|rfl|(simp [*,errW_none,errW_some] <;> rfl),by repeat (first|(with_reducible first|exact HB.out|apply below_alloc|apply pw_below_drewN|apply below_drew1|refine below_set ?_ GE123.out)|exact HB.out)⟩
              ·replace c58:=Bool.eq_false_iff.mpr c58
               subst c58
               have H1:(some false) = some r:=by rw [if_neg (show ¬ (false = true) by decide)] at H;exact H
               clear H
               have H:=H1
               clear H1
               obtain rfl:=Option.some.inj H
               have hcz60_0:wc.cell? ⟨gb123,0,none⟩ = some (.int .i64 a0_0):=(blk_cell BK123.out 0).trans rfl
               have hcz60_1:wc.cell? ⟨gb123,1,none⟩ = some (.int .i64 a0_1):=(blk_cell BK123.out 1).trans rfl
               have hcz60_2:wc.cell? ⟨gb123,2,none⟩ = some (.string a0_2):=(blk_cell BK123.out 2).trans rfl
               have hcz60_3:wc.cell? ⟨gb123,3,none⟩ = some (.slice A0_3 l0_3.length c0_3):=(blk_cell BK123.out 3).trans rfl
               have hcz60_4:wc.cell? ⟨gb123,4,none⟩ = some (.slice A0_4 l0_4.length c0_4):=(blk_cell BK123.out 4).trans rfl
               have hfz60_0:=blk_frozen BK123.out 0
               have hfz60_1:=blk_frozen BK123.out 1
               have hfz60_2:=blk_frozen BK123.out 2
               have hfz60_3:=blk_frozen BK123.out 3
               have hfz60_4:=blk_frozen BK123.out 4
               go_wp2_with (first|(go_at_call 26;(with_reducible refine (spec_l4Atom.calls kj36 a0_2 false _ A57.out).mono ?_);rintro e w' ⟨rfl,⟨nd,rfl⟩⟩))
               go_ret
               exact ⟨by first|rfl|(simp [*,errW_none,errW_some] <;> rfl),by repeat (first|(with_reducible first|exact HB.out|apply below_alloc|apply pw_below_drewN|apply below_drew1|refine below_set ?_ GE123.out)|exact HB.out)⟩
            ·rw [if_neg c55] at H
             have c55b0:(a0_0 == 8) = false:=beq_eq_false_iff_ne.mpr c55
             have c55b1:(a0_0 != 8) = true:=bne_iff_ne.mpr c55
             by_cases c61:a0_0 = 9
             ·rw [if_pos c61] at H
              have c61b0:(a0_0 == 9) = true:=beq_iff_eq.mpr c61
              have c61b1:(a0_0 != 9) = false:=bne_eq_false_iff_eq.mpr c61
              clear c61
              by_cases c62:a1 = true
              ·subst c62
               have H1:(some false) = some r:=by rw [if_pos rfl] at H;exact H
               clear H
               have H:=H1
               clear H1
               obtain rfl:=Option.some.inj H
               go_wp2
               go_ret
               exact ⟨by first|rfl|(simp [*,errW_none,errW_some] <;> rfl),by repeat (first|(with_reducible first|exact HB.out|apply below_alloc|apply pw_below_drewN|apply below_drew1|refine below_set ?_ GE123.out)|exact HB.out)⟩
              ·replace c62:=Bool.eq_false_iff.mpr c62
               subst c62
               have H1:(if a0_2.toList = ([]:List UInt8) then (if (l0_3.length:Int) = 1 then ((spec_l1In.f (l0_4.length:Int) 1 6).bind fun t130=>(some t130)) else (some false)) else (some false)) = some r:=by rw [if_neg (show ¬ (false = true) by decide)] at H;exact H
               clear H
               have H:=H1
               clear H1
               by_cases c63:a0_2.toList = ([]:List UInt8)
               ·rw [if_pos c63] at H
                have c63b0:(a0_2.toList == ([]:List UInt8)) = true:=beq_iff_eq.mpr c63
                have c63b1:(a0_2.toList != ([]:List UInt8)) = false:=bne_eq_false_iff_eq.mpr c63
                clear c63
                by_cases c64:(l0_3.length:Int) = 1
                ·rw [if_pos c64] at H
                 have c64b0:((l0_3.length:Int) == 1) = true:=beq_iff_eq.mpr c64
                 have c64b1:((l0_3.length:Int) != 1) = false:=bne_eq_false_iff_eq.mpr c64
                 clear c64
                 replace H:=Option.bind_eq_some_iff.mp H
                 obtain ⟨t130,A650,H⟩:=H
                 replace H:(some t130) = some r:=H
                 have A65:=Aside0.mk A650
                 clear A650
                 obtain rfl:=Option.some.inj H
                 have hcz66_0:wc.cell? ⟨gb123,0,none⟩ = some (.int .i64 a0_0):=(blk_cell BK123.out 0).trans rfl
                 have hcz66_1:wc.cell? ⟨gb123,1,none⟩ = some (.int .i64 a0_1):=(blk_cell BK123.out 1).trans rfl
                 have hcz66_2:wc.cell? ⟨gb123,2,none⟩ = some (.string a0_2):=(blk_cell BK123.out 2).trans rfl
                 have hcz66_3:wc.cell? ⟨gb123,3,none⟩ = some (.slice A0_3 l0_3.length c0_3):=(blk_cell BK123.out 3).trans rfl
                 have hcz66_4:wc.cell? ⟨gb123,4,none⟩ = some (.slice A0_4 l0_4.length c0_4):=(blk_cell BK123.out 4).trans rfl
                 have hfz66_0:=blk_frozen BK123.out 0
                 have hfz66_1:=blk_frozen BK123.out 1
                 have hfz66_2:=blk_frozen BK123.out 2
                 have hfz66_3:=blk_frozen BK123.out 3
                 have hfz66_4:=blk_frozen BK123.out 4
                 go_wp2_with (first|(go_at_call 25;(with_reducible refine (spec_l1In.calls (l0_4.length:Int) 1 6 t130 _ A65.out).mono ?_);rintro e w' ⟨rfl,⟨nd,rfl⟩⟩))
                 go_ret
                 exact ⟨by first|rfl|(simp [*,errW_none,errW_some] <;> rfl),by repeat (first|(with_reducible first|exact HB.out|apply below_alloc|apply pw_below_drewN|apply below_drew1|refine below_set ?_ GE123.out)|exact HB.out)⟩
                ·rw [if_neg c64] at H
                 have c64b0:((l0_3.length:Int) == 1) = false:=beq_eq_false_iff_ne.mpr c64
                 have c64b1:((l0_3.length:Int) != 1) = true:=bne_iff_ne.mpr c64
                 obtain rfl:=Option.some.inj H
                 have hcz67_0:wc.cell? ⟨gb123,0,none⟩ = some (.int .i64 a0_0):=(blk_cell BK123.out 0).trans rfl
                 have hcz67_1:wc.cell? ⟨gb123,1,none⟩ = some (.int .i64 a0_1):=(blk_cell BK123.out 1).trans rfl
                 have hcz67_2:wc.cell? ⟨gb123,2,none⟩ = some (.string a0_2):=(blk_cell BK123.out 2).trans rfl
                 have hcz67_3:wc.cell? ⟨gb123,3,none⟩ = some (.slice A0_3 l0_3.length c0_3):=(blk_cell BK123.out 3).trans rfl
                 have hcz67_4:wc.cell? ⟨gb123,4,none⟩ = some (.slice A0_4 l0_4.length c0_4):=(blk_cell BK123.out 4).trans rfl
                 have hfz67_0:=blk_frozen BK123.out 0
                 have hfz67_1:=blk_frozen BK123.out 1
                 have hfz67_2:=blk_frozen BK123.out 2
                 have hfz67_3:=blk_frozen BK123.out 3
                 have hfz67_4:=blk_frozen BK123.out 4
                 go_wp2
                 go_ret
                 exact ⟨by first|rfl|(simp [*,errW_none,errW_some] <;> rfl),by repeat (first|(with_reducible first|exact HB.out|apply below_alloc|apply pw_below_drewN|apply below_drew1|refine below_set ?_ GE123.out)|exact HB.out)⟩
               ·rw [if_neg c63] at H
                have c63b0:(a0_2.toList == ([]:List UInt8)) = false:=beq_eq_false_iff_ne.mpr c63
                have c63b1:(a0_2.toList != ([]:List UInt8)) = true:=bne_iff_ne.mpr c63
                obtain rfl:=Option.some.inj H
                have hcz68_0:wc.cell? ⟨gb123,0,none⟩ = some (.int .i64 a0_0):=(blk_cell BK123.out 0).trans rfl
                have hcz68_1:wc.cell? ⟨gb123,1,none⟩ = some (.int .i64 a0_1):=(blk_cell BK123.out 1).trans rfl
                have hcz68_2:wc.cell? ⟨gb123,2,none⟩ = some (.string a0_2):=(blk_cell BK123.out 2).trans rfl
                have hcz68_3:wc.cell? ⟨gb123,3,none⟩ = some (.slice A0_3 l0_3.length c0_3):=(blk_cell BK123.out 3).trans rfl
                have hcz68_4:wc.cell? ⟨gb123,4,none⟩ = some (.slice A0_4 l0_4.length c0_4):=(blk_cell BK123.out 4).trans rfl
                have hfz68_0:=blk_frozen BK123.out 0
                have hfz68_1:=blk_frozen BK123.out 1
                have hfz68_2:=blk_frozen BK123.out 2
                have hfz68_3:=blk_frozen BK123.out 3
                have hfz68_4:=blk_frozen BK123.out 4
                go_wp2
                go_ret
                exact ⟨by first|rfl|(simp [*,errW_none,errW_some] <;> rfl),by repeat (first|(with_reducible first|exact HB.out|apply below_alloc|apply pw_below_drewN|apply below_drew1|refine below_set ?_ GE123.out)|exact HB.out)⟩
             ·rw [if_neg c61] at H
              have c61b0:(a0_0 == 9) = false:=beq_eq_false_iff_ne.mpr c61
              have c61b1:(a0_0 != 9) = true:=bne_iff_ne.mpr c61
              obtain rfl:=Option.some.inj H
              go_wp2
              go_ret
              exact ⟨by first|rfl|(simp [*,errW_none,errW_some] <;> rfl),by repeat (first|(with_reducible first|exact HB.out|apply below_alloc|apply pw_below_drewN|apply below_drew1|refine below_set ?_ GE123.out)|exact HB.out)⟩

end Go.Proofs.Ytjgegnkphkfmoaa.QFnExactExprOk
