-- Written by a program of this workplace (print2.py) for this claim, over the print's words.
import Derived.Test.YtohafgndnpjfbaaQFnReadTermsx0
import Derived.Test.YtohafgndnpjfbaaQFnReadTermsx1
import Derived.Test.YtohafgndnpjfbaaQFnReadTermsx2
import Derived.Test.YtohafgndnpjfbaaQFnReadTermsx9
namespace Go.Proofs.Ytohafgndnpjfbaa.QFnReadTerms
open Go.RowKit Go.Proofs.YtohafgndnpjfbaaW.PrintWords Go.Proofs.YtohafgndnpjfbaaW.PrintLast Go.Proofs.YtohafgndnpjfbaaW.PrintMore
attribute [local go_sem] max2_int min2_int max_two min_two max_three min_three max_four min_four   -- for this text's walks alone
set_option linter.unusedVariables false
set_option linter.unusedSimpArgs false

/-! ### spec_l2Get: function 20 -/
mutual
def spec_l2Get.j0 : Nat → List Int → Int → Int → Int → Bool → Int → Int → ByteArray → Option (Int × Int × ByteArray × (List (S27)) × Int × Bool)
 | 0,_,_,_,_,_,_,_,_ => none
 | k + 1,x0,x2,x9,x10,x40,x390000,x390001,x390002 => if x40 = true then (some (x390000,x390001,x390002,([] : List (S27)),0,false)) else (if x9 = 1 then (spec_l2Get.j1 k x0 x2 x10 x9 (x9 == 1) x390000 x390001 x390002) else (spec_l2Get.j1 k x0 x2 x10 x9 (x9 == 3) x390000 x390001 x390002))
def spec_l2Get.j1 : Nat → List Int → Int → Int → Int → Bool → Int → Int → ByteArray → Option (Int × Int × ByteArray × (List (S27)) × Int × Bool)
 | 0,_,_,_,_,_,_,_,_ => none
 | k + 1,x0,x2,x10,x42,x43,x390000,x390001,x390002 => if x43 = true then ((spec_GetNum.f k x0 x10).bind fun bt390 => (some (x390000,bt390.1,x390002,([] : List (S27)),bt390.2.1,bt390.2.2))) else (if x42 = 2 then ((spec_GetText.f k x0 x10).bind fun bt393 => (some (x390000,x390001,bt393.1,([] : List (S27)),bt393.2.1,bt393.2.2))) else ((spec_GetNum.f k x0 x10).bind fun bt396 => (if bt396.2.2 = true then ((spec_l1In.f bt396.1 0 60).bind fun t399 => (spec_l2Get.j2 k x0 x2 bt396.1 bt396.2.1 (!t399) x390000 x390001 x390002)) else (spec_l2Get.j2 k x0 x2 bt396.1 bt396.2.1 true x390000 x390001 x390002))))
def spec_l2Get.j2 : Nat → List Int → Int → Int → Int → Bool → Int → Int → ByteArray → Option (Int × Int × ByteArray × (List (S27)) × Int × Bool)
 | 0,_,_,_,_,_,_,_,_ => none
 | k + 1,x0,x2,x19,x20,x85,x390000,x390001,x390002 => if x85 = true then (some (x390000,x390001,x390002,([] : List (S27)),0,false)) else (spec_l2Get.l0 k x0 x2 x19 x20 0 x390000 x390001 x390002 ([] : List (S27)))
def spec_l2Get.l0 : Nat → List Int → Int → Int → Int → Int → Int → Int → ByteArray → List (S27) → Option (Int × Int × ByteArray × (List (S27)) × Int × Bool)
 | 0,_,_,_,_,_,_,_,_,_ => none
 | k + 1,x0,x2,x19,x20,x22,x390000,x390001,x390002,x390003 => if x22 < x19 then ((spec_l2Get.f k x0 x20 (wrap64 (x2 - 1))).bind fun bt400 => (if bt400.2.2.2.2.2 = true then (if x390003.length < 2513169434916 then (spec_l2Get.l0 k x0 x2 x19 bt400.2.2.2.2.1 (wrap64 (x22 + 1)) x390000 x390001 x390002 (x390003 ++ [(⟨bt400.1,bt400.2.1,bt400.2.2.1,bt400.2.2.2.1⟩ : S27)])) else (none)) else (some (x390000,x390001,x390002,x390003,0,false)))) else (some (x390000,x390001,x390002,x390003,x20,true))
def spec_l2Get.f : Nat → List Int → Int → Int → Option (Int × Int × ByteArray × (List (S27)) × Int × Bool)
 | 0,_,_,_ => none
 | k + 1,l0,a1,a2 => (spec_GetNum.f k l0 a1).bind fun bt386 => (if bt386.2.2 = true then (spec_l2Get.j0 k l0 a2 bt386.1 bt386.2.1 (decide (a2 < 1)) bt386.1 0 (⟨#[]⟩ : ByteArray)) else (spec_l2Get.j0 k l0 a2 bt386.1 bt386.2.1 true bt386.1 0 (⟨#[]⟩ : ByteArray)))
end
theorem spec_l2Get.mono_l : ∀ k,(∀ y0 y1 y2,LeO (spec_l2Get.f k y0 y1 y2) (spec_l2Get.f (k + 1) y0 y1 y2)) ∧ (∀ y0 y1 y2 y3 y4 y5 y6 y7,LeO (spec_l2Get.j0 k y0 y1 y2 y3 y4 y5 y6 y7) (spec_l2Get.j0 (k + 1) y0 y1 y2 y3 y4 y5 y6 y7)) ∧ (∀ y0 y1 y2 y3 y4 y5 y6 y7,LeO (spec_l2Get.j1 k y0 y1 y2 y3 y4 y5 y6 y7) (spec_l2Get.j1 (k + 1) y0 y1 y2 y3 y4 y5 y6 y7)) ∧ (∀ y0 y1 y2 y3 y4 y5 y6 y7,LeO (spec_l2Get.j2 k y0 y1 y2 y3 y4 y5 y6 y7) (spec_l2Get.j2 (k + 1) y0 y1 y2 y3 y4 y5 y6 y7)) ∧ (∀ y0 y1 y2 y3 y4 y5 y6 y7 y8,LeO (spec_l2Get.l0 k y0 y1 y2 y3 y4 y5 y6 y7 y8) (spec_l2Get.l0 (k + 1) y0 y1 y2 y3 y4 y5 y6 y7 y8))
 | 0 => ⟨fun _ _ _ r h => by simp [spec_l2Get.f] at h,fun _ _ _ _ _ _ _ _ r h => by simp [spec_l2Get.j0] at h,fun _ _ _ _ _ _ _ _ r h => by simp [spec_l2Get.j1] at h,fun _ _ _ _ _ _ _ _ r h => by simp [spec_l2Get.j2] at h,fun _ _ _ _ _ _ _ _ _ r h => by simp [spec_l2Get.l0] at h⟩
 | k + 1 => by
  obtain ⟨ih0,ih1,ih2,ih3,ih4⟩ := spec_l2Get.mono_l k
  refine ⟨?_,?_,?_,?_,?_⟩
  ·intro y0 y1 y2
   unfold spec_l2Get.f
   repeat' first
   | (with_reducible exact ih0 _ _ _)
   | (with_reducible exact ih1 _ _ _ _ _ _ _ _)
   | (with_reducible exact ih2 _ _ _ _ _ _ _ _)
   | (with_reducible exact ih3 _ _ _ _ _ _ _ _)
   | (with_reducible exact ih4 _ _ _ _ _ _ _ _ _)
   | (with_reducible exact spec_GetNum.mono _ _ _)
   | (with_reducible exact spec_GetText.mono _ _ _)
   | (with_reducible exact LeO.refl _)
   | (with_reducible exact LeO.none _)
   | (with_reducible refine LeO.ite ?_ ?_)
   | (with_reducible refine LeO.bind ?_ (fun _ => ?_))
   | exact ih0 _ _ _
   | exact ih1 _ _ _ _ _ _ _ _
   | exact ih2 _ _ _ _ _ _ _ _
   | exact ih3 _ _ _ _ _ _ _ _
   | exact ih4 _ _ _ _ _ _ _ _ _
   | exact spec_GetNum.mono _ _ _
   | exact spec_GetText.mono _ _ _
   | exact LeO.none _
   | refine LeO.ite ?_ ?_
   | refine LeO.bind ?_ (fun _ => ?_)
  ·intro y0 y1 y2 y3 y4 y5 y6 y7
   unfold spec_l2Get.j0
   repeat' first
   | (with_reducible exact ih0 _ _ _)
   | (with_reducible exact ih1 _ _ _ _ _ _ _ _)
   | (with_reducible exact ih2 _ _ _ _ _ _ _ _)
   | (with_reducible exact ih3 _ _ _ _ _ _ _ _)
   | (with_reducible exact ih4 _ _ _ _ _ _ _ _ _)
   | (with_reducible exact spec_GetNum.mono _ _ _)
   | (with_reducible exact spec_GetText.mono _ _ _)
   | (with_reducible exact LeO.refl _)
   | (with_reducible exact LeO.none _)
   | (with_reducible refine LeO.ite ?_ ?_)
   | (with_reducible refine LeO.bind ?_ (fun _ => ?_))
   | exact ih0 _ _ _
   | exact ih1 _ _ _ _ _ _ _ _
   | exact ih2 _ _ _ _ _ _ _ _
   | exact ih3 _ _ _ _ _ _ _ _
   | exact ih4 _ _ _ _ _ _ _ _ _
   | exact spec_GetNum.mono _ _ _
   | exact spec_GetText.mono _ _ _
   | exact LeO.none _
   | refine LeO.ite ?_ ?_
   | refine LeO.bind ?_ (fun _ => ?_)
  ·intro y0 y1 y2 y3 y4 y5 y6 y7
   unfold spec_l2Get.j1
   repeat' first
   | (with_reducible exact ih0 _ _ _)
   | (with_reducible exact ih1 _ _ _ _ _ _ _ _)
   | (with_reducible exact ih2 _ _ _ _ _ _ _ _)
   | (with_reducible exact ih3 _ _ _ _ _ _ _ _)
   | (with_reducible exact ih4 _ _ _ _ _ _ _ _ _)
   | (with_reducible exact spec_GetNum.mono _ _ _)
   | (with_reducible exact spec_GetText.mono _ _ _)
   | (with_reducible exact LeO.refl _)
   | (with_reducible exact LeO.none _)
   | (with_reducible refine LeO.ite ?_ ?_)
   | (with_reducible refine LeO.bind ?_ (fun _ => ?_))
   | exact ih0 _ _ _
   | exact ih1 _ _ _ _ _ _ _ _
   | exact ih2 _ _ _ _ _ _ _ _
   | exact ih3 _ _ _ _ _ _ _ _
   | exact ih4 _ _ _ _ _ _ _ _ _
   | exact spec_GetNum.mono _ _ _
   | exact spec_GetText.mono _ _ _
   | exact LeO.none _
   | refine LeO.ite ?_ ?_
   | refine LeO.bind ?_ (fun _ => ?_)
  ·intro y0 y1 y2 y3 y4 y5 y6 y7
   unfold spec_l2Get.j2
   repeat' first
   | (with_reducible exact ih0 _ _ _)
   | (with_reducible exact ih1 _ _ _ _ _ _ _ _)
   | (with_reducible exact ih2 _ _ _ _ _ _ _ _)
   | (with_reducible exact ih3 _ _ _ _ _ _ _ _)
   | (with_reducible exact ih4 _ _ _ _ _ _ _ _ _)
   | (with_reducible exact spec_GetNum.mono _ _ _)
   | (with_reducible exact spec_GetText.mono _ _ _)
   | (with_reducible exact LeO.refl _)
   | (with_reducible exact LeO.none _)
   | (with_reducible refine LeO.ite ?_ ?_)
   | (with_reducible refine LeO.bind ?_ (fun _ => ?_))
   | exact ih0 _ _ _
   | exact ih1 _ _ _ _ _ _ _ _
   | exact ih2 _ _ _ _ _ _ _ _
   | exact ih3 _ _ _ _ _ _ _ _
   | exact ih4 _ _ _ _ _ _ _ _ _
   | exact spec_GetNum.mono _ _ _
   | exact spec_GetText.mono _ _ _
   | exact LeO.none _
   | refine LeO.ite ?_ ?_
   | refine LeO.bind ?_ (fun _ => ?_)
  ·intro y0 y1 y2 y3 y4 y5 y6 y7 y8
   unfold spec_l2Get.l0
   repeat' first
   | (with_reducible exact ih0 _ _ _)
   | (with_reducible exact ih1 _ _ _ _ _ _ _ _)
   | (with_reducible exact ih2 _ _ _ _ _ _ _ _)
   | (with_reducible exact ih3 _ _ _ _ _ _ _ _)
   | (with_reducible exact ih4 _ _ _ _ _ _ _ _ _)
   | (with_reducible exact spec_GetNum.mono _ _ _)
   | (with_reducible exact spec_GetText.mono _ _ _)
   | (with_reducible exact LeO.refl _)
   | (with_reducible exact LeO.none _)
   | (with_reducible refine LeO.ite ?_ ?_)
   | (with_reducible refine LeO.bind ?_ (fun _ => ?_))
   | exact ih0 _ _ _
   | exact ih1 _ _ _ _ _ _ _ _
   | exact ih2 _ _ _ _ _ _ _ _
   | exact ih3 _ _ _ _ _ _ _ _
   | exact ih4 _ _ _ _ _ _ _ _ _
   | exact spec_GetNum.mono _ _ _
   | exact spec_GetText.mono _ _ _
   | exact LeO.none _
   | refine LeO.ite ?_ ?_
   | refine LeO.bind ?_ (fun _ => ?_)
theorem spec_l2Get.mono : ∀ a0 a1 a2 k,LeO (spec_l2Get.f k a0 a1 a2) (spec_l2Get.f (k + 1) a0 a1 a2) := by
 intro a0 a1 a2 k
 obtain ⟨ih0,ih1,ih2,ih3,ih4⟩ := spec_l2Get.mono_l k
 exact ih0 a0 a1 a2
set_option maxHeartbeats 8000000 in
set_option maxRecDepth 100000 in
theorem spec_l2Get.calls (k : Nat) : ∀ (A0 : Option Addr) (c0 : Nat) (l0 : List Int) (a1 : Int) (a2 : Int) (r1 : Int) (r2 : Int) (r3 : ByteArray) (r4 : List (S27)) (r5 : Int) (r6 : Bool) (w : World) (hr0 : Kd.C (Kd.int .u8) w A0 l0.length l0) (hc0 : l0.length ≤ c0) (h : spec_l2Get.f k l0 a1 a2 = some (r1,r2,r3,r4,r5,r6)),
  Calls Try.prog 20 #[.slice A0 l0.length c0,.int .i64 a1,.int .i64 a2] w fun e w' => ∃ v3_ : Value,e = .returned (.tuple #[.agg #[.int .i64 r1,.int .i64 r2,.string r3,v3_],.int .i64 r5,.bool r6]) ∧ Kd.R k27 27 w' w.heap.size (fun _ => True) v3_ r4 ∧ Below w.heap.size w w' := by
 induction k using Nat.strongRecOn with
 | _ k ih =>
 intro A0 c0 l0 a1 a2 r1 r2 r3 r4 r5 r6 w hr0 hc0 h
 cases k with
 | zero => exact absurd h (by simp [spec_l2Get.f])
 | succ k =>
 simp only [spec_l2Get.f] at h
 have hu27 := Try.underlying27
 have HR0 := Aside0.mk hr0
 have HC0 := Aside0.mk hc0
 clear hr0 hc0
 have HB := Aside0.mk (Below.refl w.heap.size w)
 have H : ((spec_GetNum.f k l0 a1).bind fun bt386 => (if bt386.2.2 = true then (spec_l2Get.j0 k l0 a2 bt386.1 bt386.2.1 (decide (a2 < 1)) bt386.1 0 (⟨#[]⟩ : ByteArray)) else (spec_l2Get.j0 k l0 a2 bt386.1 bt386.2.1 true bt386.1 0 (⟨#[]⟩ : ByteArray)))) = some (r1,r2,r3,r4,r5,r6) := h
 clear h
 replace H := Option.bind_eq_some_iff.mp H
 obtain ⟨⟨t386,t387,t388⟩,A40,H⟩ := H
 replace H : (if t388 = true then (spec_l2Get.j0 k l0 a2 t386 t387 (decide (a2 < 1)) t386 0 (⟨#[]⟩ : ByteArray)) else (spec_l2Get.j0 k l0 a2 t386 t387 true t386 0 (⟨#[]⟩ : ByteArray))) = some (r1,r2,r3,r4,r5,r6) := H
 have A4 := Aside0.mk A40
 clear A40
 have HC5 := Aside0.mk H
 clear H
 go_enter Try.func20,Try.ntmps20
 go_upto_region 3 with (first | ((with_reducible refine gate_dst (N := 6) rfl ?_);refine box_event ?hg (N := 6) ?hd (cs := #[.int .i64 0,.int .i64 0,.string (⟨#[]⟩ : ByteArray),.slice none 0 0]) (t := 27) ?hr ?_;(case hd => rfl);(case hg => rfl);(case hr => first | (go_simp;done) | (go_simp;rfl));intro gb385 hg w6 hbox hb;have n0_ := Aside0.mk (below_step (by repeat (first | (with_reducible first | exact HB.out | apply below_alloc | apply pw_below_drewN | apply below_drew1) | exact HB.out)) hb);have n1_ := Aside0.mk (hbox);have n2_ := Aside0.mk ((by rw [hg];exact (below_size (by repeat (first | (with_reducible first | exact HB.out | apply below_alloc | apply pw_below_drewN | apply below_drew1) | exact HB.out))) : w.heap.size ≤ gb385));have n3_ := Aside0.mk ((by rw [hg];exact (below_size (by repeat (first | (with_reducible first | exact HB.out | apply below_alloc | apply pw_below_drewN | apply below_drew1) | exact HB.out))) : w.heap.size ≤ gb385));clear HB;have HB := n0_;have BK385 := n1_;have GW385 := n2_;have GE385 := n3_;clear n0_ n1_ n2_ n3_;clear hb hbox hg) | ((with_reducible refine gate_callee (f := 31) rfl ?_);refine goesL_ (some 29) rfl rfl Try.func31 (by kernel_rfl) rfl #[.slice A0 l0.length c0,.int .i64 a1] rfl (by (try simp only [List.map_toArray,List.map_cons,List.map_nil]);first | done | rfl | (simp only [List.length_drop,List.length_take];rfl)) ?_;(with_reducible refine (spec_GetNum.calls k _ _ l0 a1 t386 t387 t388 _ ?side1 ?side2 A4.out).mono ?_);(case side1 => repeat (first | exact (Kd.C_below HR0.out HB.out) | (with_reducible refine Kd.C_alloc ?_ _) | (with_reducible refine Kd.C_drewN ?_ _) | (with_reducible refine Kd.C_drew ?_)));(case side2 => exact HC0.out);rintro e w' ⟨rfl,⟨nd,rfl⟩⟩;refine ⟨_,rfl,?_⟩;(try (rw [drewN_self w6];generalize hq_ : World.drewN w6 _ = w6;have n0_ : Aside0 (w6.heap[gb385]? = some (.cells #[.int .i64 0,.int .i64 0,.string (⟨#[]⟩ : ByteArray),.slice none 0 0] 27 (0,0))) := ⟨by rw [← hq_];exact (by (with_reducible repeat (first | refine blk_drewN ?_ _ | refine blk_drew ?_ | refine blk_alloc ?_ _));exact BK385.out)⟩;have n1_ : Aside0 (Below w.heap.size w w6) := ⟨by rw [← hq_];exact (by repeat (first | (with_reducible first | exact HB.out | apply below_alloc | apply pw_below_drewN | apply below_drew1 | refine below_set ?_ GE385.out) | exact HB.out))⟩;clear BK385 HB hq_;have BK385 := n0_;have HB := n1_;clear n0_ n1_))) | ((with_reducible refine gate_dst (N := 12) rfl ?_);refine box_event ?hg (N := 12) ?hd (cs := #[.int .i64 0,.int .i64 0,.string (⟨#[]⟩ : ByteArray),.slice none 0 0]) (t := 27) ?hr ?_;(case hd => rfl);(case hg => rfl);(case hr => first | (go_simp;done) | (go_simp;rfl));intro gb389 hg w7 hbox hb;have n0_ := Aside0.mk (blk_below (g := gb385) (o := .cells #[.int .i64 0,.int .i64 0,.string (⟨#[]⟩ : ByteArray),.slice none 0 0] 27 (0,0)) (by (with_reducible repeat (first | refine blk_drewN ?_ _ | refine blk_drew ?_ | refine blk_alloc ?_ _));exact BK385.out) hb);have n1_ := Aside0.mk (below_step (by repeat (first | (with_reducible first | exact HB.out | apply below_alloc | apply pw_below_drewN | apply below_drew1 | refine below_set ?_ GE385.out) | exact HB.out)) hb);have n2_ := Aside0.mk (hbox);have n3_ := Aside0.mk ((by rw [hg];exact (below_size (by repeat (first | (with_reducible first | exact HB.out | apply below_alloc | apply pw_below_drewN | apply below_drew1 | refine below_set ?_ GE385.out) | exact HB.out))) : w.heap.size ≤ gb389));have n4_ := Aside0.mk ((by rw [hg];exact (below_size (by repeat (first | (with_reducible first | exact HB.out | apply below_alloc | apply pw_below_drewN | apply below_drew1 | refine below_set ?_ GE385.out) | exact HB.out))) : w.heap.size ≤ gb389));have n5_ := Aside0.mk ((by rw [hg];exact Nat.ne_of_lt (blk_lt (g := gb385) (o := .cells #[.int .i64 0,.int .i64 0,.string (⟨#[]⟩ : ByteArray),.slice none 0 0] 27 (0,0)) (by (with_reducible repeat (first | refine blk_drewN ?_ _ | refine blk_drew ?_ | refine blk_alloc ?_ _));exact BK385.out)) : gb385 ≠ gb389));have n6_ := Aside0.mk ((by rw [hg];exact Nat.ne_of_gt (blk_lt (g := gb385) (o := .cells #[.int .i64 0,.int .i64 0,.string (⟨#[]⟩ : ByteArray),.slice none 0 0] 27 (0,0)) (by (with_reducible repeat (first | refine blk_drewN ?_ _ | refine blk_drew ?_ | refine blk_alloc ?_ _));exact BK385.out)) : gb389 ≠ gb385));clear BK385;clear HB;have BK385 := n0_;have HB := n1_;have BK389 := n2_;have GW389 := n3_;have GE389 := n4_;have NB385_389 := n5_;have NB389_385 := n6_;clear n0_ n1_ n2_ n3_ n4_ n5_ n6_;clear hb hbox hg;have hnb8 := NB389_385.out;have hnc8 := NB385_389.out;have hcz9_0 : w7.cell? ⟨gb389,0,none⟩ = some (.int .i64 0) := (blk_cell BK389.out 0).trans rfl;have hcz9_1 : w7.cell? ⟨gb389,1,none⟩ = some (.int .i64 0) := (blk_cell BK389.out 1).trans rfl;have hcz9_2 : w7.cell? ⟨gb389,2,none⟩ = some (.string (⟨#[]⟩ : ByteArray)) := (blk_cell BK389.out 2).trans rfl;have hcz9_3 : w7.cell? ⟨gb389,3,none⟩ = some (.slice none 0 0) := (blk_cell BK389.out 3).trans rfl;have hfz9_0 := blk_frozen BK389.out 0;have hfz9_1 := blk_frozen BK389.out 1;have hfz9_2 := blk_frozen BK389.out 2;have hfz9_3 := blk_frozen BK389.out 3))
 (try simp only [Act.put,List.setIfInBounds_toArray,List.set_cons_zero,List.set_cons_succ])
 go_cut [40] (fun v40 wc => ∃ (kq : Nat) (x40_4 : Bool),v40 = .bool x40_4 ∧ Aside0 (spec_l2Get.j0 kq l0 a2 t386 t387 x40_4 t386 0 (⟨#[]⟩ : ByteArray) = some (r1,r2,r3,r4,r5,r6)) ∧ Aside0 (kq ≤ k) ∧ Aside0 (wc.heap[gb385]? = some (.cells #[.int .i64 0,.int .i64 0,.string (⟨#[]⟩ : ByteArray),(.slice none 0 0)] 27 (0,0))) ∧ Aside0 (wc.heap[gb389]? = some (.cells #[.int .i64 t386,.int .i64 0,.string (⟨#[]⟩ : ByteArray),(.slice none 0 0)] 27 (0,0))) ∧ Aside0 (Below w.heap.size w wc))
 case first =>
  have H := HC5.out
  clear HC5
  by_cases c10 : t388 = true
  ·subst c10
   have H1 : (spec_l2Get.j0 k l0 a2 t386 t387 (decide (a2 < 1)) t386 0 (⟨#[]⟩ : ByteArray)) = some (r1,r2,r3,r4,r5,r6) := by rw [if_pos rfl] at H;exact H
   clear H
   have H := H1
   clear H1
   have H' := Aside0.mk H
   clear H
   go_wp2
   go_meet
   case rel => exact ⟨_,(decide (a2 < 1)),(by first | rfl | (simp;done) | (simp [*];done)),H',⟨by first | omega | exact Nat.le_refl _⟩,⟨by (with_reducible repeat (first | refine blk_drewN ?_ _ | refine blk_drew ?_ | refine blk_alloc ?_ _));refine blk_far ?_ NB385_389.out _;(with_reducible repeat (first | refine blk_drewN ?_ _ | refine blk_drew ?_ | refine blk_alloc ?_ _));refine blk_far ?_ NB385_389.out _;(with_reducible repeat (first | refine blk_drewN ?_ _ | refine blk_drew ?_ | refine blk_alloc ?_ _));refine blk_far ?_ NB385_389.out _;(with_reducible repeat (first | refine blk_drewN ?_ _ | refine blk_drew ?_ | refine blk_alloc ?_ _));refine blk_far ?_ NB385_389.out _;(with_reducible repeat (first | refine blk_drewN ?_ _ | refine blk_drew ?_ | refine blk_alloc ?_ _));exact BK385.out⟩,⟨by (with_reducible repeat (first | refine blk_drewN ?_ _ | refine blk_drew ?_ | refine blk_alloc ?_ _));refine blk_put (cs := #[.int .i64 t386,.int .i64 0,.string (⟨#[]⟩ : ByteArray),.slice none 0 0]) ?_ 3 _ rfl;(with_reducible repeat (first | refine blk_drewN ?_ _ | refine blk_drew ?_ | refine blk_alloc ?_ _));refine blk_put (cs := #[.int .i64 t386,.int .i64 0,.string (⟨#[]⟩ : ByteArray),.slice none 0 0]) ?_ 2 _ rfl;(with_reducible repeat (first | refine blk_drewN ?_ _ | refine blk_drew ?_ | refine blk_alloc ?_ _));refine blk_put (cs := #[.int .i64 t386,.int .i64 0,.string (⟨#[]⟩ : ByteArray),.slice none 0 0]) ?_ 1 _ rfl;(with_reducible repeat (first | refine blk_drewN ?_ _ | refine blk_drew ?_ | refine blk_alloc ?_ _));refine blk_put (cs := #[.int .i64 0,.int .i64 0,.string (⟨#[]⟩ : ByteArray),.slice none 0 0]) ?_ 0 _ rfl;(with_reducible repeat (first | refine blk_drewN ?_ _ | refine blk_drew ?_ | refine blk_alloc ?_ _));exact BK389.out⟩,⟨by repeat (first | (with_reducible first | exact HB.out | apply below_alloc | apply pw_below_drewN | apply below_drew1 | refine below_set ?_ GE385.out | refine below_set ?_ GE389.out) | exact HB.out)⟩⟩
  ·replace c10 := Bool.eq_false_iff.mpr c10
   subst c10
   have H1 : (spec_l2Get.j0 k l0 a2 t386 t387 true t386 0 (⟨#[]⟩ : ByteArray)) = some (r1,r2,r3,r4,r5,r6) := by rw [if_neg (show ¬ (false = true) by decide)] at H;exact H
   clear H
   have H := H1
   clear H1
   have H' := Aside0.mk H
   clear H
   go_wp2
   go_meet
   case rel => exact ⟨_,(true),(by first | rfl | (simp;done) | (simp [*];done)),H',⟨by first | omega | exact Nat.le_refl _⟩,⟨by (with_reducible repeat (first | refine blk_drewN ?_ _ | refine blk_drew ?_ | refine blk_alloc ?_ _));refine blk_far ?_ NB385_389.out _;(with_reducible repeat (first | refine blk_drewN ?_ _ | refine blk_drew ?_ | refine blk_alloc ?_ _));refine blk_far ?_ NB385_389.out _;(with_reducible repeat (first | refine blk_drewN ?_ _ | refine blk_drew ?_ | refine blk_alloc ?_ _));refine blk_far ?_ NB385_389.out _;(with_reducible repeat (first | refine blk_drewN ?_ _ | refine blk_drew ?_ | refine blk_alloc ?_ _));refine blk_far ?_ NB385_389.out _;(with_reducible repeat (first | refine blk_drewN ?_ _ | refine blk_drew ?_ | refine blk_alloc ?_ _));exact BK385.out⟩,⟨by (with_reducible repeat (first | refine blk_drewN ?_ _ | refine blk_drew ?_ | refine blk_alloc ?_ _));refine blk_put (cs := #[.int .i64 t386,.int .i64 0,.string (⟨#[]⟩ : ByteArray),.slice none 0 0]) ?_ 3 _ rfl;(with_reducible repeat (first | refine blk_drewN ?_ _ | refine blk_drew ?_ | refine blk_alloc ?_ _));refine blk_put (cs := #[.int .i64 t386,.int .i64 0,.string (⟨#[]⟩ : ByteArray),.slice none 0 0]) ?_ 2 _ rfl;(with_reducible repeat (first | refine blk_drewN ?_ _ | refine blk_drew ?_ | refine blk_alloc ?_ _));refine blk_put (cs := #[.int .i64 t386,.int .i64 0,.string (⟨#[]⟩ : ByteArray),.slice none 0 0]) ?_ 1 _ rfl;(with_reducible repeat (first | refine blk_drewN ?_ _ | refine blk_drew ?_ | refine blk_alloc ?_ _));refine blk_put (cs := #[.int .i64 0,.int .i64 0,.string (⟨#[]⟩ : ByteArray),.slice none 0 0]) ?_ 0 _ rfl;(with_reducible repeat (first | refine blk_drewN ?_ _ | refine blk_drew ?_ | refine blk_alloc ?_ _));exact BK389.out⟩,⟨by repeat (first | (with_reducible first | exact HB.out | apply below_alloc | apply pw_below_drewN | apply below_drew1 | refine below_set ?_ GE385.out | refine below_set ?_ GE389.out) | exact HB.out)⟩⟩
 case rest =>
  clear HC5
  try clear c1
  try clear c2
  try clear p2
  try clear c3
  try clear c8
  try clear c10
  try clear hcz9_0
  try clear hcz9_1
  try clear hcz9_2
  try clear hcz9_3
  try clear hfz9_0
  try clear hfz9_1
  try clear hfz9_2
  try clear hfz9_3
  try clear BK385
  try clear BK389
  try clear HB
  obtain ⟨kq,x40_4,rfl,HA,HJ4,BK385,BK389,HB⟩ := hcut
  cases kq with
  | zero => exact absurd HA.out (by simp [spec_l2Get.j0])
  | succ kj4 =>
   have H := HA.out
   clear HA
   simp only [spec_l2Get.j0] at H
   by_cases c11 : x40_4 = true
   ·subst c11
    have H1 : (some (t386,0,(⟨#[]⟩ : ByteArray),([] : List (S27)),0,false)) = some (r1,r2,r3,r4,r5,r6) := by rw [if_pos rfl] at H;exact H
    clear H
    have H := H1
    clear H1
    simp only [Option.some.injEq,Prod.mk.injEq] at H
    obtain ⟨rfl,rfl,rfl,rfl,rfl,rfl⟩ := H
    have hnb12 := NB389_385.out
    have hnc12 := NB385_389.out
    have hcz13_0 : wc.cell? ⟨gb389,0,none⟩ = some (.int .i64 t386) := (blk_cell BK389.out 0).trans rfl
    have hcz13_1 : wc.cell? ⟨gb389,1,none⟩ = some (.int .i64 0) := (blk_cell BK389.out 1).trans rfl
    have hcz13_2 : wc.cell? ⟨gb389,2,none⟩ = some (.string (⟨#[]⟩ : ByteArray)) := (blk_cell BK389.out 2).trans rfl
    have hcz13_3 : wc.cell? ⟨gb389,3,none⟩ = some (.slice none 0 0) := (blk_cell BK389.out 3).trans rfl
    have hfz13_0 := blk_frozen BK389.out 0
    have hfz13_1 := blk_frozen BK389.out 1
    have hfz13_2 := blk_frozen BK389.out 2
    have hfz13_3 := blk_frozen BK389.out 3
    have hcz14_0 : wc.cell? ⟨gb385,0,none⟩ = some (.int .i64 0) := (blk_cell BK385.out 0).trans rfl
    have hcz14_1 : wc.cell? ⟨gb385,1,none⟩ = some (.int .i64 0) := (blk_cell BK385.out 1).trans rfl
    have hcz14_2 : wc.cell? ⟨gb385,2,none⟩ = some (.string (⟨#[]⟩ : ByteArray)) := (blk_cell BK385.out 2).trans rfl
    have hcz14_3 : wc.cell? ⟨gb385,3,none⟩ = some (.slice none 0 0) := (blk_cell BK385.out 3).trans rfl
    have hfz14_0 := blk_frozen BK385.out 0
    have hfz14_1 := blk_frozen BK385.out 1
    have hfz14_2 := blk_frozen BK385.out 2
    have hfz14_3 := blk_frozen BK385.out 3
    go_wp2
    refine bodyPost_ret (results_ctt rfl _ _ gb385 27 #[.int .i64 t386,.int .i64 0,.string (⟨#[]⟩ : ByteArray),.slice none 0 0] (0,0) _ rfl (by (with_reducible repeat (first | refine blk_drewN ?_ _ | refine blk_drew ?_ | refine blk_alloc ?_ _));refine blk_put (cs := #[.int .i64 t386,.int .i64 0,.string (⟨#[]⟩ : ByteArray),.slice none 0 0]) ?_ 3 _ rfl;(with_reducible repeat (first | refine blk_drewN ?_ _ | refine blk_drew ?_ | refine blk_alloc ?_ _));refine blk_put (cs := #[.int .i64 t386,.int .i64 0,.string (⟨#[]⟩ : ByteArray),.slice none 0 0]) ?_ 2 _ rfl;(with_reducible repeat (first | refine blk_drewN ?_ _ | refine blk_drew ?_ | refine blk_alloc ?_ _));refine blk_put (cs := #[.int .i64 t386,.int .i64 0,.string (⟨#[]⟩ : ByteArray),.slice none 0 0]) ?_ 1 _ rfl;(with_reducible repeat (first | refine blk_drewN ?_ _ | refine blk_drew ?_ | refine blk_alloc ?_ _));refine blk_put (cs := #[.int .i64 0,.int .i64 0,.string (⟨#[]⟩ : ByteArray),.slice none 0 0]) ?_ 0 _ rfl;(with_reducible repeat (first | refine blk_drewN ?_ _ | refine blk_drew ?_ | refine blk_alloc ?_ _));exact BK385.out) Try.underlying27 rfl (by kernel_rfl)) rfl ?_
    exact ⟨_,by first | rfl | (simp [*,errW_none,errW_some] <;> rfl),by first | exact Kd.R_nil _ _ _ _ _ | exact Kd.N_nil _ _ _ _ _ | exact Kd.V_nil _ _ _ _ _ | exact Kd.Q_nil _ _ _ _ _ | exact Kd.S_nil _ _ _ _ _,by repeat (first | (with_reducible first | exact HB.out | apply below_alloc | apply pw_below_drewN | apply below_drew1 | refine below_set ?_ GE385.out | refine below_set ?_ GE389.out) | exact HB.out)⟩
   ·replace c11 := Bool.eq_false_iff.mpr c11
    subst c11
    have H1 : (if t386 = 1 then (spec_l2Get.j1 kj4 l0 a2 t387 t386 (t386 == 1) t386 0 (⟨#[]⟩ : ByteArray)) else (spec_l2Get.j1 kj4 l0 a2 t387 t386 (t386 == 3) t386 0 (⟨#[]⟩ : ByteArray))) = some (r1,r2,r3,r4,r5,r6) := by rw [if_neg (show ¬ (false = true) by decide)] at H;exact H
    clear H
    have H := H1
    clear H1
    have HC15 := Aside0.mk H
    clear H
    go_upto_if 43 with (fail)
    go_cut [43] (fun v43 wc => ∃ (kq : Nat) (x43_14 : Bool),v43 = .bool x43_14 ∧ Aside0 (spec_l2Get.j1 kq l0 a2 t387 t386 x43_14 t386 0 (⟨#[]⟩ : ByteArray) = some (r1,r2,r3,r4,r5,r6)) ∧ Aside0 (kq ≤ kj4) ∧ Aside0 (wc.heap[gb385]? = some (.cells #[.int .i64 0,.int .i64 0,.string (⟨#[]⟩ : ByteArray),(.slice none 0 0)] 27 (0,0))) ∧ Aside0 (wc.heap[gb389]? = some (.cells #[.int .i64 t386,.int .i64 0,.string (⟨#[]⟩ : ByteArray),(.slice none 0 0)] 27 (0,0))) ∧ Aside0 (Below w.heap.size w wc))
    case first =>
     have H := HC15.out
     clear HC15
     by_cases c16 : t386 = 1
     ·rw [if_pos c16] at H
      have c16b0 : (t386 == 1) = true := beq_iff_eq.mpr c16
      have c16b1 : (t386 != 1) = false := bne_eq_false_iff_eq.mpr c16
      clear c16
      (first | rw [c16b0] | (simp only [i64_w,i32_w];rw [c16b0]) | (simp only [c16b2,Bool.not_true,Bool.not_false]) | skip)
      have H' := Aside0.mk H
      clear H
      go_wp2
      go_meet
      case rel => exact ⟨_,((t386 == 1)),(by first | rfl | (simp;done) | (simp [*];done)),H',⟨by have := HJ4.out;first | omega | exact Nat.le_refl _⟩,⟨by (with_reducible repeat (first | refine blk_drewN ?_ _ | refine blk_drew ?_ | refine blk_alloc ?_ _));exact BK385.out⟩,⟨by (with_reducible repeat (first | refine blk_drewN ?_ _ | refine blk_drew ?_ | refine blk_alloc ?_ _));exact BK389.out⟩,⟨by repeat (first | (with_reducible first | exact HB.out | apply below_alloc | apply pw_below_drewN | apply below_drew1 | refine below_set ?_ GE385.out | refine below_set ?_ GE389.out) | exact HB.out)⟩⟩
     ·rw [if_neg c16] at H
      have c16b0 : (t386 == 1) = false := beq_eq_false_iff_ne.mpr c16
      have c16b1 : (t386 != 1) = true := bne_iff_ne.mpr c16
      (first | rw [c16b0] | (simp only [i64_w,i32_w];rw [c16b0]) | (simp only [c16b2,Bool.not_true,Bool.not_false]) | skip)
      have H' := Aside0.mk H
      clear H
      go_wp2
      go_meet
      case rel => exact ⟨_,((t386 == 3)),(by first | rfl | (simp;done) | (simp [*];done)),H',⟨by have := HJ4.out;first | omega | exact Nat.le_refl _⟩,⟨by (with_reducible repeat (first | refine blk_drewN ?_ _ | refine blk_drew ?_ | refine blk_alloc ?_ _));exact BK385.out⟩,⟨by (with_reducible repeat (first | refine blk_drewN ?_ _ | refine blk_drew ?_ | refine blk_alloc ?_ _));exact BK389.out⟩,⟨by repeat (first | (with_reducible first | exact HB.out | apply below_alloc | apply pw_below_drewN | apply below_drew1 | refine below_set ?_ GE385.out | refine below_set ?_ GE389.out) | exact HB.out)⟩⟩
    case rest =>
     clear HC15
     try clear c1
     try clear c2
     try clear p2
     try clear c3
     try clear c8
     try clear c10
     try clear c11
     try clear c12
     try clear c16
     try clear c16b0
     try clear c16b1
     try clear c16b2
     try clear hcz13_0
     try clear hcz13_1
     try clear hcz13_2
     try clear hcz13_3
     try clear hcz14_0
     try clear hcz14_1
     try clear hcz14_2
     try clear hcz14_3
     try clear hcz9_0
     try clear hcz9_1
     try clear hcz9_2
     try clear hcz9_3
     try clear hfz13_0
     try clear hfz13_1
     try clear hfz13_2
     try clear hfz13_3
     try clear hfz14_0
     try clear hfz14_1
     try clear hfz14_2
     try clear hfz14_3
     try clear hfz9_0
     try clear hfz9_1
     try clear hfz9_2
     try clear hfz9_3
     try clear p2
     try clear BK385
     try clear BK389
     try clear HB
     obtain ⟨kq,x43_14,rfl,HA,HJ14,BK385,BK389,HB⟩ := hcut
     cases kq with
     | zero => exact absurd HA.out (by simp [spec_l2Get.j1])
     | succ kj14 =>
      have H := HA.out
      clear HA
      simp only [spec_l2Get.j1] at H
      by_cases c17 : x43_14 = true
      ·subst c17
       have H1 : ((spec_GetNum.f kj14 l0 t387).bind fun bt390 => (some (t386,bt390.1,(⟨#[]⟩ : ByteArray),([] : List (S27)),bt390.2.1,bt390.2.2))) = some (r1,r2,r3,r4,r5,r6) := by rw [if_pos rfl] at H;exact H
       clear H
       have H := H1
       clear H1
       replace H := Option.bind_eq_some_iff.mp H
       obtain ⟨⟨t390,t391,t392⟩,A180,H⟩ := H
       replace H : (some (t386,t390,(⟨#[]⟩ : ByteArray),([] : List (S27)),t391,t392)) = some (r1,r2,r3,r4,r5,r6) := H
       have A18 := Aside0.mk A180
       clear A180
       simp only [Option.some.injEq,Prod.mk.injEq] at H
       obtain ⟨rfl,rfl,rfl,rfl,rfl,rfl⟩ := H
       go_wp2_with (first | ((with_reducible refine gate_callee (f := 31) rfl ?_);refine goesL_ (some 49) rfl rfl Try.func31 (by kernel_rfl) rfl #[.slice A0 l0.length c0,.int .i64 t387] rfl (by (try simp only [List.map_toArray,List.map_cons,List.map_nil]);first | done | rfl | (simp only [List.length_drop,List.length_take];rfl)) ?_;(with_reducible refine (spec_GetNum.calls kj14 _ _ l0 t387 t390 t391 t392 _ ?side1 ?side2 A18.out).mono ?_);(case side1 => repeat (first | exact (Kd.C_below HR0.out HB.out) | (with_reducible refine Kd.C_alloc ?_ _) | (with_reducible refine Kd.C_drewN ?_ _) | (with_reducible refine Kd.C_drew ?_)));(case side2 => exact HC0.out);rintro e w' ⟨rfl,⟨nd,rfl⟩⟩;refine ⟨_,rfl,?_⟩;(try (rw [drewN_self wc];generalize hq_ : World.drewN wc _ = wc;have n0_ : Aside0 (wc.heap[gb385]? = some (.cells #[.int .i64 0,.int .i64 0,.string (⟨#[]⟩ : ByteArray),.slice none 0 0] 27 (0,0))) := ⟨by rw [← hq_];exact (by (with_reducible repeat (first | refine blk_drewN ?_ _ | refine blk_drew ?_ | refine blk_alloc ?_ _));exact BK385.out)⟩;have n1_ : Aside0 (wc.heap[gb389]? = some (.cells #[.int .i64 t386,.int .i64 0,.string (⟨#[]⟩ : ByteArray),.slice none 0 0] 27 (0,0))) := ⟨by rw [← hq_];exact (by (with_reducible repeat (first | refine blk_drewN ?_ _ | refine blk_drew ?_ | refine blk_alloc ?_ _));exact BK389.out)⟩;have n2_ : Aside0 (Below w.heap.size w wc) := ⟨by rw [← hq_];exact (by repeat (first | (with_reducible first | exact HB.out | apply below_alloc | apply pw_below_drewN | apply below_drew1 | refine below_set ?_ GE385.out | refine below_set ?_ GE389.out) | exact HB.out))⟩;clear BK385 BK389 HB hq_;have BK385 := n0_;have BK389 := n1_;have HB := n2_;clear n0_ n1_ n2_));have hnb19 := NB389_385.out;have hnc19 := NB385_389.out;have hcz20_0 : wc.cell? ⟨gb389,0,none⟩ = some (.int .i64 t386) := (blk_cell BK389.out 0).trans rfl;have hcz20_1 : wc.cell? ⟨gb389,1,none⟩ = some (.int .i64 0) := (blk_cell BK389.out 1).trans rfl;have hcz20_2 : wc.cell? ⟨gb389,2,none⟩ = some (.string (⟨#[]⟩ : ByteArray)) := (blk_cell BK389.out 2).trans rfl;have hcz20_3 : wc.cell? ⟨gb389,3,none⟩ = some (.slice none 0 0) := (blk_cell BK389.out 3).trans rfl;have hfz20_0 := blk_frozen BK389.out 0;have hfz20_1 := blk_frozen BK389.out 1;have hfz20_2 := blk_frozen BK389.out 2;have hfz20_3 := blk_frozen BK389.out 3;have hcz21_0 : wc.cell? ⟨gb385,0,none⟩ = some (.int .i64 0) := (blk_cell BK385.out 0).trans rfl;have hcz21_1 : wc.cell? ⟨gb385,1,none⟩ = some (.int .i64 0) := (blk_cell BK385.out 1).trans rfl;have hcz21_2 : wc.cell? ⟨gb385,2,none⟩ = some (.string (⟨#[]⟩ : ByteArray)) := (blk_cell BK385.out 2).trans rfl;have hcz21_3 : wc.cell? ⟨gb385,3,none⟩ = some (.slice none 0 0) := (blk_cell BK385.out 3).trans rfl;have hfz21_0 := blk_frozen BK385.out 0;have hfz21_1 := blk_frozen BK385.out 1;have hfz21_2 := blk_frozen BK385.out 2;have hfz21_3 := blk_frozen BK385.out 3))
       refine bodyPost_ret (results_ctt rfl _ _ gb385 27 #[.int .i64 t386,.int .i64 t390,.string (⟨#[]⟩ : ByteArray),.slice none 0 0] (0,0) _ rfl (by (with_reducible repeat (first | refine blk_drewN ?_ _ | refine blk_drew ?_ | refine blk_alloc ?_ _));refine blk_put (cs := #[.int .i64 t386,.int .i64 t390,.string (⟨#[]⟩ : ByteArray),.slice none 0 0]) ?_ 3 _ rfl;(with_reducible repeat (first | refine blk_drewN ?_ _ | refine blk_drew ?_ | refine blk_alloc ?_ _));refine blk_put (cs := #[.int .i64 t386,.int .i64 t390,.string (⟨#[]⟩ : ByteArray),.slice none 0 0]) ?_ 2 _ rfl;(with_reducible repeat (first | refine blk_drewN ?_ _ | refine blk_drew ?_ | refine blk_alloc ?_ _));refine blk_put (cs := #[.int .i64 t386,.int .i64 0,.string (⟨#[]⟩ : ByteArray),.slice none 0 0]) ?_ 1 _ rfl;(with_reducible repeat (first | refine blk_drewN ?_ _ | refine blk_drew ?_ | refine blk_alloc ?_ _));refine blk_put (cs := #[.int .i64 0,.int .i64 0,.string (⟨#[]⟩ : ByteArray),.slice none 0 0]) ?_ 0 _ rfl;(with_reducible repeat (first | refine blk_drewN ?_ _ | refine blk_drew ?_ | refine blk_alloc ?_ _));refine blk_far ?_ NB385_389.out _;(with_reducible repeat (first | refine blk_drewN ?_ _ | refine blk_drew ?_ | refine blk_alloc ?_ _));exact BK385.out) Try.underlying27 rfl (by kernel_rfl)) rfl ?_
       exact ⟨_,by first | rfl | (simp [*,errW_none,errW_some] <;> rfl),by first | exact Kd.R_nil _ _ _ _ _ | exact Kd.N_nil _ _ _ _ _ | exact Kd.V_nil _ _ _ _ _ | exact Kd.Q_nil _ _ _ _ _ | exact Kd.S_nil _ _ _ _ _,by repeat (first | (with_reducible first | exact HB.out | apply below_alloc | apply pw_below_drewN | apply below_drew1 | refine below_set ?_ GE385.out | refine below_set ?_ GE389.out) | exact HB.out)⟩
      ·replace c17 := Bool.eq_false_iff.mpr c17
       subst c17
       have H1 : (if t386 = 2 then ((spec_GetText.f kj14 l0 t387).bind fun bt393 => (some (t386,0,bt393.1,([] : List (S27)),bt393.2.1,bt393.2.2))) else ((spec_GetNum.f kj14 l0 t387).bind fun bt396 => (if bt396.2.2 = true then ((spec_l1In.f bt396.1 0 60).bind fun t399 => (spec_l2Get.j2 kj14 l0 a2 bt396.1 bt396.2.1 (!t399) t386 0 (⟨#[]⟩ : ByteArray))) else (spec_l2Get.j2 kj14 l0 a2 bt396.1 bt396.2.1 true t386 0 (⟨#[]⟩ : ByteArray))))) = some (r1,r2,r3,r4,r5,r6) := by rw [if_neg (show ¬ (false = true) by decide)] at H;exact H
       clear H
       have H := H1
       clear H1
       by_cases c22 : t386 = 2
       ·rw [if_pos c22] at H
        have c22b0 : (t386 == 2) = true := beq_iff_eq.mpr c22
        have c22b1 : (t386 != 2) = false := bne_eq_false_iff_eq.mpr c22
        clear c22
        replace H := Option.bind_eq_some_iff.mp H
        obtain ⟨⟨t393,t394,t395⟩,A230,H⟩ := H
        replace H : (some (t386,0,t393,([] : List (S27)),t394,t395)) = some (r1,r2,r3,r4,r5,r6) := H
        have A23 := Aside0.mk A230
        clear A230
        simp only [Option.some.injEq,Prod.mk.injEq] at H
        obtain ⟨rfl,rfl,rfl,rfl,rfl,rfl⟩ := H
        go_wp2_with (first | ((with_reducible refine gate_callee (f := 32) rfl ?_);refine goesL_ (some 63) rfl rfl Try.func32 (by kernel_rfl) rfl #[.slice A0 l0.length c0,.int .i64 t387] rfl (by (try simp only [List.map_toArray,List.map_cons,List.map_nil]);first | done | rfl | (simp only [List.length_drop,List.length_take];rfl)) ?_;(with_reducible refine (spec_GetText.calls kj14 _ _ l0 t387 t393 t394 t395 _ ?side1 ?side2 A23.out).mono ?_);(case side1 => repeat (first | exact (Kd.C_below HR0.out HB.out) | (with_reducible refine Kd.C_alloc ?_ _) | (with_reducible refine Kd.C_drewN ?_ _) | (with_reducible refine Kd.C_drew ?_)));(case side2 => exact HC0.out);rintro e w' ⟨rfl,⟨nd,rfl⟩⟩;refine ⟨_,rfl,?_⟩;(try (rw [drewN_self wc];generalize hq_ : World.drewN wc _ = wc;have n0_ : Aside0 (wc.heap[gb385]? = some (.cells #[.int .i64 0,.int .i64 0,.string (⟨#[]⟩ : ByteArray),.slice none 0 0] 27 (0,0))) := ⟨by rw [← hq_];exact (by (with_reducible repeat (first | refine blk_drewN ?_ _ | refine blk_drew ?_ | refine blk_alloc ?_ _));exact BK385.out)⟩;have n1_ : Aside0 (wc.heap[gb389]? = some (.cells #[.int .i64 t386,.int .i64 0,.string (⟨#[]⟩ : ByteArray),.slice none 0 0] 27 (0,0))) := ⟨by rw [← hq_];exact (by (with_reducible repeat (first | refine blk_drewN ?_ _ | refine blk_drew ?_ | refine blk_alloc ?_ _));exact BK389.out)⟩;have n2_ : Aside0 (Below w.heap.size w wc) := ⟨by rw [← hq_];exact (by repeat (first | (with_reducible first | exact HB.out | apply below_alloc | apply pw_below_drewN | apply below_drew1 | refine below_set ?_ GE385.out | refine below_set ?_ GE389.out) | exact HB.out))⟩;clear BK385 BK389 HB hq_;have BK385 := n0_;have BK389 := n1_;have HB := n2_;clear n0_ n1_ n2_));have hnb24 := NB389_385.out;have hnc24 := NB385_389.out;have hcz25_0 : wc.cell? ⟨gb389,0,none⟩ = some (.int .i64 t386) := (blk_cell BK389.out 0).trans rfl;have hcz25_1 : wc.cell? ⟨gb389,1,none⟩ = some (.int .i64 0) := (blk_cell BK389.out 1).trans rfl;have hcz25_2 : wc.cell? ⟨gb389,2,none⟩ = some (.string (⟨#[]⟩ : ByteArray)) := (blk_cell BK389.out 2).trans rfl;have hcz25_3 : wc.cell? ⟨gb389,3,none⟩ = some (.slice none 0 0) := (blk_cell BK389.out 3).trans rfl;have hfz25_0 := blk_frozen BK389.out 0;have hfz25_1 := blk_frozen BK389.out 1;have hfz25_2 := blk_frozen BK389.out 2;have hfz25_3 := blk_frozen BK389.out 3;have hcz26_0 : wc.cell? ⟨gb385,0,none⟩ = some (.int .i64 0) := (blk_cell BK385.out 0).trans rfl;have hcz26_1 : wc.cell? ⟨gb385,1,none⟩ = some (.int .i64 0) := (blk_cell BK385.out 1).trans rfl;have hcz26_2 : wc.cell? ⟨gb385,2,none⟩ = some (.string (⟨#[]⟩ : ByteArray)) := (blk_cell BK385.out 2).trans rfl;have hcz26_3 : wc.cell? ⟨gb385,3,none⟩ = some (.slice none 0 0) := (blk_cell BK385.out 3).trans rfl;have hfz26_0 := blk_frozen BK385.out 0;have hfz26_1 := blk_frozen BK385.out 1;have hfz26_2 := blk_frozen BK385.out 2;have hfz26_3 := blk_frozen BK385.out 3))
        refine bodyPost_ret (results_ctt rfl _ _ gb385 27 #[.int .i64 t386,.int .i64 0,.string t393,.slice none 0 0] (0,0) _ rfl (by (with_reducible repeat (first | refine blk_drewN ?_ _ | refine blk_drew ?_ | refine blk_alloc ?_ _));refine blk_put (cs := #[.int .i64 t386,.int .i64 0,.string t393,.slice none 0 0]) ?_ 3 _ rfl;(with_reducible repeat (first | refine blk_drewN ?_ _ | refine blk_drew ?_ | refine blk_alloc ?_ _));refine blk_put (cs := #[.int .i64 t386,.int .i64 0,.string (⟨#[]⟩ : ByteArray),.slice none 0 0]) ?_ 2 _ rfl;(with_reducible repeat (first | refine blk_drewN ?_ _ | refine blk_drew ?_ | refine blk_alloc ?_ _));refine blk_put (cs := #[.int .i64 t386,.int .i64 0,.string (⟨#[]⟩ : ByteArray),.slice none 0 0]) ?_ 1 _ rfl;(with_reducible repeat (first | refine blk_drewN ?_ _ | refine blk_drew ?_ | refine blk_alloc ?_ _));refine blk_put (cs := #[.int .i64 0,.int .i64 0,.string (⟨#[]⟩ : ByteArray),.slice none 0 0]) ?_ 0 _ rfl;(with_reducible repeat (first | refine blk_drewN ?_ _ | refine blk_drew ?_ | refine blk_alloc ?_ _));refine blk_far ?_ NB385_389.out _;(with_reducible repeat (first | refine blk_drewN ?_ _ | refine blk_drew ?_ | refine blk_alloc ?_ _));exact BK385.out) Try.underlying27 rfl (by kernel_rfl)) rfl ?_
        exact ⟨_,by first | rfl | (simp [*,errW_none,errW_some] <;> rfl),by first | exact Kd.R_nil _ _ _ _ _ | exact Kd.N_nil _ _ _ _ _ | exact Kd.V_nil _ _ _ _ _ | exact Kd.Q_nil _ _ _ _ _ | exact Kd.S_nil _ _ _ _ _,by repeat (first | (with_reducible first | exact HB.out | apply below_alloc | apply pw_below_drewN | apply below_drew1 | refine below_set ?_ GE385.out | refine below_set ?_ GE389.out) | exact HB.out)⟩
       ·rw [if_neg c22] at H
        have c22b0 : (t386 == 2) = false := beq_eq_false_iff_ne.mpr c22
        have c22b1 : (t386 != 2) = true := bne_iff_ne.mpr c22
        replace H := Option.bind_eq_some_iff.mp H
        obtain ⟨⟨t396,t397,t398⟩,A270,H⟩ := H
        replace H : (if t398 = true then ((spec_l1In.f t396 0 60).bind fun t399 => (spec_l2Get.j2 kj14 l0 a2 t396 t397 (!t399) t386 0 (⟨#[]⟩ : ByteArray))) else (spec_l2Get.j2 kj14 l0 a2 t396 t397 true t386 0 (⟨#[]⟩ : ByteArray))) = some (r1,r2,r3,r4,r5,r6) := H
        have A27 := Aside0.mk A270
        clear A270
        have HC28 := Aside0.mk H
        clear H
        go_upto_region 16 with (first | ((with_reducible refine gate_callee (f := 31) rfl ?_);refine goesL_ (some 75) rfl rfl Try.func31 (by kernel_rfl) rfl #[.slice A0 l0.length c0,.int .i64 t387] rfl (by (try simp only [List.map_toArray,List.map_cons,List.map_nil]);first | done | rfl | (simp only [List.length_drop,List.length_take];rfl)) ?_;(with_reducible refine (spec_GetNum.calls kj14 _ _ l0 t387 t396 t397 t398 _ ?side1 ?side2 A27.out).mono ?_);(case side1 => repeat (first | exact (Kd.C_below HR0.out HB.out) | (with_reducible refine Kd.C_alloc ?_ _) | (with_reducible refine Kd.C_drewN ?_ _) | (with_reducible refine Kd.C_drew ?_)));(case side2 => exact HC0.out);rintro e w' ⟨rfl,⟨nd,rfl⟩⟩;refine ⟨_,rfl,?_⟩))
        (try simp only [Act.put,List.setIfInBounds_toArray,List.set_cons_zero,List.set_cons_succ])
        go_cut [85] (fun v85 wc => ∃ (kq : Nat) (x85_27 : Bool),v85 = .bool x85_27 ∧ Aside0 (spec_l2Get.j2 kq l0 a2 t396 t397 x85_27 t386 0 (⟨#[]⟩ : ByteArray) = some (r1,r2,r3,r4,r5,r6)) ∧ Aside0 (kq ≤ kj14) ∧ Aside0 (wc.heap[gb385]? = some (.cells #[.int .i64 0,.int .i64 0,.string (⟨#[]⟩ : ByteArray),(.slice none 0 0)] 27 (0,0))) ∧ Aside0 (wc.heap[gb389]? = some (.cells #[.int .i64 t386,.int .i64 0,.string (⟨#[]⟩ : ByteArray),(.slice none 0 0)] 27 (0,0))) ∧ Aside0 (Below w.heap.size w wc))
        case first =>
         have H := HC28.out
         clear HC28
         by_cases c29 : t398 = true
         ·subst c29
          have H1 : ((spec_l1In.f t396 0 60).bind fun t399 => (spec_l2Get.j2 kj14 l0 a2 t396 t397 (!t399) t386 0 (⟨#[]⟩ : ByteArray))) = some (r1,r2,r3,r4,r5,r6) := by rw [if_pos rfl] at H;exact H
          clear H
          have H := H1
          clear H1
          replace H := Option.bind_eq_some_iff.mp H
          obtain ⟨t399,A300,H⟩ := H
          replace H : (spec_l2Get.j2 kj14 l0 a2 t396 t397 (!t399) t386 0 (⟨#[]⟩ : ByteArray)) = some (r1,r2,r3,r4,r5,r6) := H
          have A30 := Aside0.mk A300
          clear A300
          have H' := Aside0.mk H
          clear H
          go_wp2_with (first | (go_at_call 33;(with_reducible refine (spec_l1In.calls t396 0 60 t399 _ A30.out).mono ?_);rintro e w' ⟨rfl,⟨nd,rfl⟩⟩))
          go_meet
          case rel => exact ⟨_,(!t399),(by first | rfl | (simp;done) | (simp [*];done)),H',⟨by have := HJ4.out;have := HJ14.out;first | omega | exact Nat.le_refl _⟩,⟨by (with_reducible repeat (first | refine blk_drewN ?_ _ | refine blk_drew ?_ | refine blk_alloc ?_ _));exact BK385.out⟩,⟨by (with_reducible repeat (first | refine blk_drewN ?_ _ | refine blk_drew ?_ | refine blk_alloc ?_ _));exact BK389.out⟩,⟨by repeat (first | (with_reducible first | exact HB.out | apply below_alloc | apply pw_below_drewN | apply below_drew1 | refine below_set ?_ GE385.out | refine below_set ?_ GE389.out) | exact HB.out)⟩⟩
         ·replace c29 := Bool.eq_false_iff.mpr c29
          subst c29
          have H1 : (spec_l2Get.j2 kj14 l0 a2 t396 t397 true t386 0 (⟨#[]⟩ : ByteArray)) = some (r1,r2,r3,r4,r5,r6) := by rw [if_neg (show ¬ (false = true) by decide)] at H;exact H
          clear H
          have H := H1
          clear H1
          have H' := Aside0.mk H
          clear H
          go_wp2
          go_meet
          case rel => exact ⟨_,(true),(by first | rfl | (simp;done) | (simp [*];done)),H',⟨by have := HJ4.out;have := HJ14.out;first | omega | exact Nat.le_refl _⟩,⟨by (with_reducible repeat (first | refine blk_drewN ?_ _ | refine blk_drew ?_ | refine blk_alloc ?_ _));exact BK385.out⟩,⟨by (with_reducible repeat (first | refine blk_drewN ?_ _ | refine blk_drew ?_ | refine blk_alloc ?_ _));exact BK389.out⟩,⟨by repeat (first | (with_reducible first | exact HB.out | apply below_alloc | apply pw_below_drewN | apply below_drew1 | refine below_set ?_ GE385.out | refine below_set ?_ GE389.out) | exact HB.out)⟩⟩
        case rest =>
         clear HC28
         try clear c1
         try clear c2
         try clear p2
         try clear c3
         try clear c8
         try clear c10
         try clear c11
         try clear c12
         try clear c16
         try clear c16b0
         try clear c16b1
         try clear c16b2
         try clear c17
         try clear c19
         try clear c20
         try clear c22
         try clear c22b0
         try clear c22b1
         try clear c24
         try clear c29
         try clear hcz13_0
         try clear hcz13_1
         try clear hcz13_2
         try clear hcz13_3
         try clear hcz14_0
         try clear hcz14_1
         try clear hcz14_2
         try clear hcz14_3
         try clear hcz20_0
         try clear hcz20_1
         try clear hcz20_2
         try clear hcz20_3
         try clear hcz21_0
         try clear hcz21_1
         try clear hcz21_2
         try clear hcz21_3
         try clear hcz25_0
         try clear hcz25_1
         try clear hcz25_2
         try clear hcz25_3
         try clear hcz26_0
         try clear hcz26_1
         try clear hcz26_2
         try clear hcz26_3
         try clear hcz9_0
         try clear hcz9_1
         try clear hcz9_2
         try clear hcz9_3
         try clear hfz13_0
         try clear hfz13_1
         try clear hfz13_2
         try clear hfz13_3
         try clear hfz14_0
         try clear hfz14_1
         try clear hfz14_2
         try clear hfz14_3
         try clear hfz20_0
         try clear hfz20_1
         try clear hfz20_2
         try clear hfz20_3
         try clear hfz21_0
         try clear hfz21_1
         try clear hfz21_2
         try clear hfz21_3
         try clear hfz25_0
         try clear hfz25_1
         try clear hfz25_2
         try clear hfz25_3
         try clear hfz26_0
         try clear hfz26_1
         try clear hfz26_2
         try clear hfz26_3
         try clear hfz9_0
         try clear hfz9_1
         try clear hfz9_2
         try clear hfz9_3
         try clear p2
         try clear BK385
         try clear BK389
         try clear HB
         obtain ⟨kq,x85_27,rfl,HA,HJ27,BK385,BK389,HB⟩ := hcut
         cases kq with
         | zero => exact absurd HA.out (by simp [spec_l2Get.j2])
         | succ kj27 =>
          have H := HA.out
          clear HA
          simp only [spec_l2Get.j2] at H
          by_cases c31 : x85_27 = true
          ·subst c31
           have H1 : (some (t386,0,(⟨#[]⟩ : ByteArray),([] : List (S27)),0,false)) = some (r1,r2,r3,r4,r5,r6) := by rw [if_pos rfl] at H;exact H
           clear H
           have H := H1
           clear H1
           simp only [Option.some.injEq,Prod.mk.injEq] at H
           obtain ⟨rfl,rfl,rfl,rfl,rfl,rfl⟩ := H
           have hnb32 := NB389_385.out
           have hnc32 := NB385_389.out
           have hcz33_0 : wc.cell? ⟨gb389,0,none⟩ = some (.int .i64 t386) := (blk_cell BK389.out 0).trans rfl
           have hcz33_1 : wc.cell? ⟨gb389,1,none⟩ = some (.int .i64 0) := (blk_cell BK389.out 1).trans rfl
           have hcz33_2 : wc.cell? ⟨gb389,2,none⟩ = some (.string (⟨#[]⟩ : ByteArray)) := (blk_cell BK389.out 2).trans rfl
           have hcz33_3 : wc.cell? ⟨gb389,3,none⟩ = some (.slice none 0 0) := (blk_cell BK389.out 3).trans rfl
           have hfz33_0 := blk_frozen BK389.out 0
           have hfz33_1 := blk_frozen BK389.out 1
           have hfz33_2 := blk_frozen BK389.out 2
           have hfz33_3 := blk_frozen BK389.out 3
           have hcz34_0 : wc.cell? ⟨gb385,0,none⟩ = some (.int .i64 0) := (blk_cell BK385.out 0).trans rfl
           have hcz34_1 : wc.cell? ⟨gb385,1,none⟩ = some (.int .i64 0) := (blk_cell BK385.out 1).trans rfl
           have hcz34_2 : wc.cell? ⟨gb385,2,none⟩ = some (.string (⟨#[]⟩ : ByteArray)) := (blk_cell BK385.out 2).trans rfl
           have hcz34_3 : wc.cell? ⟨gb385,3,none⟩ = some (.slice none 0 0) := (blk_cell BK385.out 3).trans rfl
           have hfz34_0 := blk_frozen BK385.out 0
           have hfz34_1 := blk_frozen BK385.out 1
           have hfz34_2 := blk_frozen BK385.out 2
           have hfz34_3 := blk_frozen BK385.out 3
           go_wp2
           refine bodyPost_ret (results_ctt rfl _ _ gb385 27 #[.int .i64 t386,.int .i64 0,.string (⟨#[]⟩ : ByteArray),.slice none 0 0] (0,0) _ rfl (by (with_reducible repeat (first | refine blk_drewN ?_ _ | refine blk_drew ?_ | refine blk_alloc ?_ _));refine blk_put (cs := #[.int .i64 t386,.int .i64 0,.string (⟨#[]⟩ : ByteArray),.slice none 0 0]) ?_ 3 _ rfl;(with_reducible repeat (first | refine blk_drewN ?_ _ | refine blk_drew ?_ | refine blk_alloc ?_ _));refine blk_put (cs := #[.int .i64 t386,.int .i64 0,.string (⟨#[]⟩ : ByteArray),.slice none 0 0]) ?_ 2 _ rfl;(with_reducible repeat (first | refine blk_drewN ?_ _ | refine blk_drew ?_ | refine blk_alloc ?_ _));refine blk_put (cs := #[.int .i64 t386,.int .i64 0,.string (⟨#[]⟩ : ByteArray),.slice none 0 0]) ?_ 1 _ rfl;(with_reducible repeat (first | refine blk_drewN ?_ _ | refine blk_drew ?_ | refine blk_alloc ?_ _));refine blk_put (cs := #[.int .i64 0,.int .i64 0,.string (⟨#[]⟩ : ByteArray),.slice none 0 0]) ?_ 0 _ rfl;(with_reducible repeat (first | refine blk_drewN ?_ _ | refine blk_drew ?_ | refine blk_alloc ?_ _));exact BK385.out) Try.underlying27 rfl (by kernel_rfl)) rfl ?_
           exact ⟨_,by first | rfl | (simp [*,errW_none,errW_some] <;> rfl),by first | exact Kd.R_nil _ _ _ _ _ | exact Kd.N_nil _ _ _ _ _ | exact Kd.V_nil _ _ _ _ _ | exact Kd.Q_nil _ _ _ _ _ | exact Kd.S_nil _ _ _ _ _,by repeat (first | (with_reducible first | exact HB.out | apply below_alloc | apply pw_below_drewN | apply below_drew1 | refine below_set ?_ GE385.out | refine below_set ?_ GE389.out) | exact HB.out)⟩
          ·replace c31 := Bool.eq_false_iff.mpr c31
           subst c31
           have H1 : (spec_l2Get.l0 kj27 l0 a2 t396 t397 0 t386 0 (⟨#[]⟩ : ByteArray) ([] : List (S27))) = some (r1,r2,r3,r4,r5,r6) := by rw [if_neg (show ¬ (false = true) by decide)] at H;exact H
           clear H
           have H := H1
           clear H1
           have H' := Aside0.mk H
           clear H
           go_wp2
           go_loopg [20,22] kj27 (fun kq v20 v22 w' => ∃ (x20_4 : Int) (x22_4 : Int) (x386000_4 : Int) (x386001_4 : Int) (x386002_4 : ByteArray) (x390003_4 : List (S27)) (u390003 : Value),v20 = .int .i64 x20_4 ∧ v22 = .int .i64 x22_4 ∧ Aside0 (spec_l2Get.l0 kq l0 a2 t396 x20_4 x22_4 t386 0 (⟨#[]⟩ : ByteArray) x390003_4 = some (r1,r2,r3,r4,r5,r6)) ∧ Aside0 (kq ≤ kj27) ∧ Aside0 (Kd.R k27 27 w' w.heap.size (fun k_ => k_ ≠ gb385 ∧ k_ ≠ gb389) u390003 x390003_4) ∧ Aside0 (w'.heap[gb385]? = some (.cells #[.int .i64 x386000_4,.int .i64 x386001_4,.string x386002_4,(.slice none 0 0)] 27 (0,0))) ∧ Aside0 (w'.heap[gb389]? = some (.cells #[.int .i64 t386,.int .i64 0,.string (⟨#[]⟩ : ByteArray),u390003] 27 (0,0))) ∧ Aside0 (Below w.heap.size w w'))
           case atStart => exact ⟨(t397),(0),(0),(0),((⟨#[]⟩ : ByteArray)),(([] : List (S27))),(.slice none 0 0),(by first | rfl | (simp;done) | (simp [*];done)),(by first | rfl | (simp;done) | (simp [*];done)),H',⟨Nat.le_refl _⟩,⟨by first | exact Kd.R_nil _ _ _ _ _ | exact Kd.N_nil _ _ _ _ _ | exact Kd.V_nil _ _ _ _ _ | exact Kd.Q_nil _ _ _ _ _ | exact Kd.S_nil _ _ _ _ _⟩,⟨by (with_reducible repeat (first | refine blk_drewN ?_ _ | refine blk_drew ?_ | refine blk_alloc ?_ _));exact BK385.out⟩,⟨by (with_reducible repeat (first | refine blk_drewN ?_ _ | refine blk_drew ?_ | refine blk_alloc ?_ _));exact BK389.out⟩,⟨by repeat (first | (with_reducible first | exact HB.out | apply below_alloc | apply pw_below_drewN | apply below_drew1 | refine below_set ?_ GE385.out | refine below_set ?_ GE389.out) | exact HB.out)⟩⟩
           case round =>
            clear H'
            try clear c1
            try clear c2
            try clear p2
            try clear c3
            try clear c8
            try clear c10
            try clear c11
            try clear c12
            try clear c16
            try clear c16b0
            try clear c16b1
            try clear c16b2
            try clear c17
            try clear c19
            try clear c20
            try clear c22
            try clear c22b0
            try clear c22b1
            try clear c24
            try clear c29
            try clear c31
            try clear c32
            try clear hcz13_0
            try clear hcz13_1
            try clear hcz13_2
            try clear hcz13_3
            try clear hcz14_0
            try clear hcz14_1
            try clear hcz14_2
            try clear hcz14_3
            try clear hcz20_0
            try clear hcz20_1
            try clear hcz20_2
            try clear hcz20_3
            try clear hcz21_0
            try clear hcz21_1
            try clear hcz21_2
            try clear hcz21_3
            try clear hcz25_0
            try clear hcz25_1
            try clear hcz25_2
            try clear hcz25_3
            try clear hcz26_0
            try clear hcz26_1
            try clear hcz26_2
            try clear hcz26_3
            try clear hcz33_0
            try clear hcz33_1
            try clear hcz33_2
            try clear hcz33_3
            try clear hcz34_0
            try clear hcz34_1
            try clear hcz34_2
            try clear hcz34_3
            try clear hcz9_0
            try clear hcz9_1
            try clear hcz9_2
            try clear hcz9_3
            try clear hfz13_0
            try clear hfz13_1
            try clear hfz13_2
            try clear hfz13_3
            try clear hfz14_0
            try clear hfz14_1
            try clear hfz14_2
            try clear hfz14_3
            try clear hfz20_0
            try clear hfz20_1
            try clear hfz20_2
            try clear hfz20_3
            try clear hfz21_0
            try clear hfz21_1
            try clear hfz21_2
            try clear hfz21_3
            try clear hfz25_0
            try clear hfz25_1
            try clear hfz25_2
            try clear hfz25_3
            try clear hfz26_0
            try clear hfz26_1
            try clear hfz26_2
            try clear hfz26_3
            try clear hfz33_0
            try clear hfz33_1
            try clear hfz33_2
            try clear hfz33_3
            try clear hfz34_0
            try clear hfz34_1
            try clear hfz34_2
            try clear hfz34_3
            try clear hfz9_0
            try clear hfz9_1
            try clear hfz9_2
            try clear hfz9_3
            try clear p2
            try clear HO_390003
            try clear BK385
            try clear BK389
            try clear HB
            obtain ⟨x20_4,x22_4,x386000_4,x386001_4,x386002_4,x390003_4,u390003,rfl,rfl,HA,HK4,HO_390003,BK385,BK389,HB⟩ := hrel
            cases gk with
            | zero => exact absurd HA.out (by simp [spec_l2Get.l0])
            | succ k4 =>
             have H := HA.out
             clear HA
             simp only [spec_l2Get.l0] at H
             by_cases c35 : x22_4 < t396
             ·rw [if_pos c35] at H
              have c35b0 : decide (x22_4 < t396) = true := decide_eq_true c35
              clear c35
              replace H := Option.bind_eq_some_iff.mp H
              obtain ⟨⟨t400,t401,t402,t403,t406,t407⟩,A360,H⟩ := H
              replace H : (if t407 = true then (if x390003_4.length < 2513169434916 then (spec_l2Get.l0 k4 l0 a2 t396 t406 (wrap64 (x22_4 + 1)) t386 0 (⟨#[]⟩ : ByteArray) (x390003_4 ++ [(⟨t400,t401,t402,t403⟩ : S27)])) else (none)) else (some (t386,0,(⟨#[]⟩ : ByteArray),x390003_4,0,false))) = some (r1,r2,r3,r4,r5,r6) := H
              have A36 := Aside0.mk A360
              clear A360
              by_cases c37 : t407 = true
              ·subst c37
               have H1 : (if x390003_4.length < 2513169434916 then (spec_l2Get.l0 k4 l0 a2 t396 t406 (wrap64 (x22_4 + 1)) t386 0 (⟨#[]⟩ : ByteArray) (x390003_4 ++ [(⟨t400,t401,t402,t403⟩ : S27)])) else (none)) = some (r1,r2,r3,r4,r5,r6) := by rw [if_pos rfl] at H;exact H
               clear H
               have H := H1
               clear H1
               by_cases c38 : x390003_4.length < 2513169434916
               ·rw [if_pos c38] at H
                have LMc38 := Aside0.mk c38
                clear c38
                obtain ⟨y409,hy409⟩ : ∃ y_ : List (S27),y_ = (x390003_4 ++ [(⟨t400,t401,t402,t403⟩ : S27)]) := ⟨_,rfl⟩
                replace H : (spec_l2Get.l0 k4 l0 a2 t396 t406 (wrap64 (x22_4 + 1)) t386 0 (⟨#[]⟩ : ByteArray) y409) = some (r1,r2,r3,r4,r5,r6) := by first | (rw [hy409];with_reducible exact H) | (have H2_ := (Option.bind_some _ _).symm.trans H;rw [hy409];with_reducible exact H2_) | (have H2_ := (Option.bind_some _ _).symm.trans H;with_reducible exact H2_) | with_reducible exact H | (rw [hy409];exact H) | exact H
                have Ny409 := Aside0.mk hy409
                clear hy409
                have H' := Aside0.mk H
                clear H
                go_wp2_with (first | ((with_reducible refine gate_callee (f := 20) rfl ?_);refine goesL_ (some 97) rfl rfl Try.func20 (by kernel_rfl) rfl #[.slice A0 l0.length c0,.int .i64 x20_4,.int .i64 (wrap64 (a2 - 1))] rfl (by (try simp only [List.map_toArray,List.map_cons,List.map_nil]);first | done | rfl | (simp only [List.length_drop,List.length_take];rfl)) ?_;(with_reducible refine (ih k4 (by have := HJ4.out;have := HJ14.out;have := HJ27.out;have := HK4.out;omega) _ _ l0 x20_4 (wrap64 (a2 - 1)) t400 t401 t402 t403 t406 true _ ?side1 ?side2 A36.out).mono ?_);(case side1 => repeat (first | exact (Kd.C_below HR0.out HB.out) | (with_reducible refine Kd.C_alloc ?_ _) | (with_reducible refine Kd.C_drewN ?_ _) | (with_reducible refine Kd.C_drew ?_)));(case side2 => exact HC0.out);rintro e w39 ⟨v404,rfl,ho0,hb⟩;refine ⟨_,rfl,?_⟩;have n0_ := Aside0.mk (Kd.R_elder' (by (with_reducible repeat (first | apply Kd.R_alloc | apply Kd.R_drewN | apply Kd.R_drew));exact HO_390003.out) (Kd.R_base ho0) hb);have n1_ := Aside0.mk (Kd.R_lower (Kd.R_newB (Kd.R_newB (Kd.R_new' ho0 (Kd.R_lt (by (with_reducible repeat (first | apply Kd.R_alloc | apply Kd.R_drewN | apply Kd.R_drew));exact HO_390003.out))) (g := gb385) (o := .cells #[.int .i64 x386000_4,.int .i64 x386001_4,.string x386002_4,.slice none 0 0] 27 (0,0)) (by (with_reducible repeat (first | refine blk_drewN ?_ _ | refine blk_drew ?_ | refine blk_alloc ?_ _));exact BK385.out)) (g := gb389) (o := .cells #[.int .i64 t386,.int .i64 0,.string (⟨#[]⟩ : ByteArray),u390003] 27 (0,0)) (by (with_reducible repeat (first | refine blk_drewN ?_ _ | refine blk_drew ?_ | refine blk_alloc ?_ _));exact BK389.out)) (below_size (by repeat (first | (with_reducible first | exact HB.out | apply below_alloc | apply pw_below_drewN | apply below_drew1 | refine below_set ?_ GE385.out | refine below_set ?_ GE389.out) | exact HB.out))));have n2_ := Aside0.mk (blk_below (g := gb385) (o := .cells #[.int .i64 x386000_4,.int .i64 x386001_4,.string x386002_4,.slice none 0 0] 27 (0,0)) (by (with_reducible repeat (first | refine blk_drewN ?_ _ | refine blk_drew ?_ | refine blk_alloc ?_ _));exact BK385.out) hb);have n3_ := Aside0.mk (blk_below (g := gb389) (o := .cells #[.int .i64 t386,.int .i64 0,.string (⟨#[]⟩ : ByteArray),u390003] 27 (0,0)) (by (with_reducible repeat (first | refine blk_drewN ?_ _ | refine blk_drew ?_ | refine blk_alloc ?_ _));exact BK389.out) hb);have n4_ := Aside0.mk (below_step (by repeat (first | (with_reducible first | exact HB.out | apply below_alloc | apply pw_below_drewN | apply below_drew1 | refine below_set ?_ GE385.out | refine below_set ?_ GE389.out) | exact HB.out)) hb);clear HO_390003;clear BK385;clear BK389;clear HB;have HO_390003 := n0_;have HO405 := n1_;have BK385 := n2_;have BK389 := n3_;have HB := n4_;clear n0_ n1_ n2_ n3_ n4_;(try clear hb);(try clear hb2);(try clear hk);(try clear hi);(try clear ho0)) | ((with_reducible refine gate_dst (N := 23) rfl ?_);refine box_event ?hg (N := 23) ?hd (cs := #[.int .i64 0,.int .i64 0,.string (⟨#[]⟩ : ByteArray),.slice none 0 0]) (t := 27) ?hr ?_;(case hd => rfl);(case hg => rfl);(case hr => first | (go_simp;done) | (go_simp;rfl));intro gb408 hg w40 hbox hb;have n0_ := Aside0.mk (Kd.R_below (Kd.R_elderB (by (with_reducible repeat (first | apply Kd.R_alloc | apply Kd.R_drewN | apply Kd.R_drew));exact HO_390003.out) gb408 (Nat.le_of_eq hg.symm)) hb);have n1_ := Aside0.mk (Kd.R_below (Kd.R_elderB (by (with_reducible repeat (first | apply Kd.R_alloc | apply Kd.R_drewN | apply Kd.R_drew));exact HO405.out) gb408 (Nat.le_of_eq hg.symm)) hb);have n2_ := Aside0.mk (blk_below (g := gb385) (o := .cells #[.int .i64 x386000_4,.int .i64 x386001_4,.string x386002_4,.slice none 0 0] 27 (0,0)) (by (with_reducible repeat (first | refine blk_drewN ?_ _ | refine blk_drew ?_ | refine blk_alloc ?_ _));exact BK385.out) hb);have n3_ := Aside0.mk (blk_below (g := gb389) (o := .cells #[.int .i64 t386,.int .i64 0,.string (⟨#[]⟩ : ByteArray),u390003] 27 (0,0)) (by (with_reducible repeat (first | refine blk_drewN ?_ _ | refine blk_drew ?_ | refine blk_alloc ?_ _));exact BK389.out) hb);have n4_ := Aside0.mk (below_step (by repeat (first | (with_reducible first | exact HB.out | apply below_alloc | apply pw_below_drewN | apply below_drew1 | refine below_set ?_ GE385.out | refine below_set ?_ GE389.out) | exact HB.out)) hb);have n5_ := Aside0.mk (hbox);have n6_ := Aside0.mk ((by rw [hg];exact (below_size (by repeat (first | (with_reducible first | exact HB.out | apply below_alloc | apply pw_below_drewN | apply below_drew1 | refine below_set ?_ GE385.out | refine below_set ?_ GE389.out) | exact HB.out))) : w.heap.size ≤ gb408));have n7_ := Aside0.mk ((by rw [hg];exact (below_size (by repeat (first | (with_reducible first | exact HB.out | apply below_alloc | apply pw_below_drewN | apply below_drew1 | refine below_set ?_ GE385.out | refine below_set ?_ GE389.out) | exact HB.out))) : w.heap.size ≤ gb408));have n8_ := Aside0.mk ((by rw [hg];exact Nat.ne_of_lt (blk_lt (g := gb385) (o := .cells #[.int .i64 x386000_4,.int .i64 x386001_4,.string x386002_4,.slice none 0 0] 27 (0,0)) (by (with_reducible repeat (first | refine blk_drewN ?_ _ | refine blk_drew ?_ | refine blk_alloc ?_ _));exact BK385.out)) : gb385 ≠ gb408));have n9_ := Aside0.mk ((by rw [hg];exact Nat.ne_of_gt (blk_lt (g := gb385) (o := .cells #[.int .i64 x386000_4,.int .i64 x386001_4,.string x386002_4,.slice none 0 0] 27 (0,0)) (by (with_reducible repeat (first | refine blk_drewN ?_ _ | refine blk_drew ?_ | refine blk_alloc ?_ _));exact BK385.out)) : gb408 ≠ gb385));have n10_ := Aside0.mk ((by rw [hg];exact Nat.ne_of_lt (blk_lt (g := gb389) (o := .cells #[.int .i64 t386,.int .i64 0,.string (⟨#[]⟩ : ByteArray),u390003] 27 (0,0)) (by (with_reducible repeat (first | refine blk_drewN ?_ _ | refine blk_drew ?_ | refine blk_alloc ?_ _));exact BK389.out)) : gb389 ≠ gb408));have n11_ := Aside0.mk ((by rw [hg];exact Nat.ne_of_gt (blk_lt (g := gb389) (o := .cells #[.int .i64 t386,.int .i64 0,.string (⟨#[]⟩ : ByteArray),u390003] 27 (0,0)) (by (with_reducible repeat (first | refine blk_drewN ?_ _ | refine blk_drew ?_ | refine blk_alloc ?_ _));exact BK389.out)) : gb408 ≠ gb389));clear HO_390003;clear HO405;clear BK385;clear BK389;clear HB;have HO_390003 := n0_;have HO405 := n1_;have BK385 := n2_;have BK389 := n3_;have HB := n4_;have BK408 := n5_;have GW408 := n6_;have GE408 := n7_;have NB385_408 := n8_;have NB408_385 := n9_;have NB389_408 := n10_;have NB408_389 := n11_;clear n0_ n1_ n2_ n3_ n4_ n5_ n6_ n7_ n8_ n9_ n10_ n11_;clear hb hbox hg;have hnb41 := NB408_385.out;have hnc41 := NB385_408.out;have hnb42 := NB408_389.out;have hnc42 := NB389_408.out;have hcz43_0 : w40.cell? ⟨gb408,0,none⟩ = some (.int .i64 0) := (blk_cell BK408.out 0).trans rfl;have hcz43_1 : w40.cell? ⟨gb408,1,none⟩ = some (.int .i64 0) := (blk_cell BK408.out 1).trans rfl;have hcz43_2 : w40.cell? ⟨gb408,2,none⟩ = some (.string (⟨#[]⟩ : ByteArray)) := (blk_cell BK408.out 2).trans rfl;have hcz43_3 : w40.cell? ⟨gb408,3,none⟩ = some (.slice none 0 0) := (blk_cell BK408.out 3).trans rfl;have hfz43_0 := blk_frozen BK408.out 0;have hfz43_1 := blk_frozen BK408.out 1;have hfz43_2 := blk_frozen BK408.out 2;have hfz43_3 := blk_frozen BK408.out 3;obtain ⟨Ao44,co44,eo44⟩ := Kd.R_slice HO405.out;subst eo44) | ((with_reducible refine gate_store (t := 27) (p := 23) rfl ?_);refine store_event (t := 27) (p := 23) (v := ?vo_w45) (w1 := ((((w40.setCell ⟨gb408,0,none⟩ (.int .i64 t400)).setCell ⟨gb408,1,none⟩ (.int .i64 t401)).setCell ⟨gb408,2,none⟩ (.string t402)).setCell ⟨gb408,3,none⟩ (.slice Ao44 t403.length co44))) ?hg ?ho ?hn ?hr ?_;(case ho => rfl);(case hg => rfl);(case hn => rfl);(case hr => first | (go_simp;done) | (go_simp;rfl));intro w45 hw;have n0_ : Aside0 (Kd.R k27 27 w45 w.heap.size (fun k_ => some k_ ≠ (.slice Ao44 t403.length co44 : Value).ownBlock ∧ k_ ≠ gb385 ∧ k_ ≠ gb389 ∧ k_ ≠ gb408) u390003 x390003_4) := ⟨(by rw [hw];exact (by (with_reducible repeat (first | apply Kd.R_alloc | apply Kd.R_drewN | apply Kd.R_drew));exact Kd.R_mono (Kd.R_far (p := ⟨gb408,3,none⟩) (Kd.R_far (p := ⟨gb408,2,none⟩) (Kd.R_far (p := ⟨gb408,1,none⟩) (Kd.R_far (p := ⟨gb408,0,none⟩) (Kd.R_mono HO_390003.out (fun k_ hk => (⟨hk,hk.2⟩ : _ ∧ k_ ≠ gb408))) (fun _ hk => hk.2) (.int .i64 t400)) (fun _ hk => hk.2) (.int .i64 t401)) (fun _ hk => hk.2) (.string t402)) (fun _ hk => hk.2) (.slice Ao44 t403.length co44)) (fun _ hk => ⟨hk.1.1.2,⟨hk.1.1.1.1,⟨hk.1.1.1.2,hk.1.2⟩⟩⟩)))⟩;have n1_ : Aside0 (Kd.R k27 27 w45 w.heap.size (fun k_ => some k_ ≠ (u390003 : Value).ownBlock ∧ k_ ≠ gb385 ∧ k_ ≠ gb389 ∧ k_ ≠ gb408) (.slice Ao44 t403.length co44) t403) := ⟨(by rw [hw];exact (by (with_reducible repeat (first | apply Kd.R_alloc | apply Kd.R_drewN | apply Kd.R_drew));exact Kd.R_mono (Kd.R_far (p := ⟨gb408,3,none⟩) (Kd.R_far (p := ⟨gb408,2,none⟩) (Kd.R_far (p := ⟨gb408,1,none⟩) (Kd.R_far (p := ⟨gb408,0,none⟩) (Kd.R_mono HO405.out (fun k_ hk => (⟨hk,hk.2⟩ : _ ∧ k_ ≠ gb408))) (fun _ hk => hk.2) (.int .i64 t400)) (fun _ hk => hk.2) (.int .i64 t401)) (fun _ hk => hk.2) (.string t402)) (fun _ hk => hk.2) (.slice Ao44 t403.length co44)) (fun _ hk => ⟨hk.1.1.1.1.2,⟨hk.1.1.1.2,⟨hk.1.1.2,hk.1.2⟩⟩⟩)))⟩;have n2_ : Aside0 (w45.heap[gb385]? = some (.cells #[.int .i64 x386000_4,.int .i64 x386001_4,.string x386002_4,.slice none 0 0] 27 (0,0))) := ⟨(by rw [hw];exact (by (with_reducible repeat (first | refine blk_drewN ?_ _ | refine blk_drew ?_ | refine blk_alloc ?_ _));refine blk_far ?_ NB385_408.out _;(with_reducible repeat (first | refine blk_drewN ?_ _ | refine blk_drew ?_ | refine blk_alloc ?_ _));refine blk_far ?_ NB385_408.out _;(with_reducible repeat (first | refine blk_drewN ?_ _ | refine blk_drew ?_ | refine blk_alloc ?_ _));refine blk_far ?_ NB385_408.out _;(with_reducible repeat (first | refine blk_drewN ?_ _ | refine blk_drew ?_ | refine blk_alloc ?_ _));refine blk_far ?_ NB385_408.out _;(with_reducible repeat (first | refine blk_drewN ?_ _ | refine blk_drew ?_ | refine blk_alloc ?_ _));exact BK385.out))⟩;have n3_ : Aside0 (w45.heap[gb389]? = some (.cells #[.int .i64 t386,.int .i64 0,.string (⟨#[]⟩ : ByteArray),u390003] 27 (0,0))) := ⟨(by rw [hw];exact (by (with_reducible repeat (first | refine blk_drewN ?_ _ | refine blk_drew ?_ | refine blk_alloc ?_ _));refine blk_far ?_ NB389_408.out _;(with_reducible repeat (first | refine blk_drewN ?_ _ | refine blk_drew ?_ | refine blk_alloc ?_ _));refine blk_far ?_ NB389_408.out _;(with_reducible repeat (first | refine blk_drewN ?_ _ | refine blk_drew ?_ | refine blk_alloc ?_ _));refine blk_far ?_ NB389_408.out _;(with_reducible repeat (first | refine blk_drewN ?_ _ | refine blk_drew ?_ | refine blk_alloc ?_ _));refine blk_far ?_ NB389_408.out _;(with_reducible repeat (first | refine blk_drewN ?_ _ | refine blk_drew ?_ | refine blk_alloc ?_ _));exact BK389.out))⟩;have n4_ : Aside0 (w45.heap[gb408]? = some (.cells #[.int .i64 t400,.int .i64 t401,.string t402,.slice Ao44 t403.length co44] 27 (0,0))) := ⟨(by rw [hw];exact (by (with_reducible repeat (first | refine blk_drewN ?_ _ | refine blk_drew ?_ | refine blk_alloc ?_ _));refine blk_put (cs := #[.int .i64 t400,.int .i64 t401,.string t402,.slice none 0 0]) ?_ 3 _ rfl;(with_reducible repeat (first | refine blk_drewN ?_ _ | refine blk_drew ?_ | refine blk_alloc ?_ _));refine blk_put (cs := #[.int .i64 t400,.int .i64 t401,.string (⟨#[]⟩ : ByteArray),.slice none 0 0]) ?_ 2 _ rfl;(with_reducible repeat (first | refine blk_drewN ?_ _ | refine blk_drew ?_ | refine blk_alloc ?_ _));refine blk_put (cs := #[.int .i64 t400,.int .i64 0,.string (⟨#[]⟩ : ByteArray),.slice none 0 0]) ?_ 1 _ rfl;(with_reducible repeat (first | refine blk_drewN ?_ _ | refine blk_drew ?_ | refine blk_alloc ?_ _));refine blk_put (cs := #[.int .i64 0,.int .i64 0,.string (⟨#[]⟩ : ByteArray),.slice none 0 0]) ?_ 0 _ rfl;(with_reducible repeat (first | refine blk_drewN ?_ _ | refine blk_drew ?_ | refine blk_alloc ?_ _));exact BK408.out))⟩;have n5_ : Aside0 (Below w.heap.size w w45) := ⟨(by rw [hw];exact (by repeat (first | (with_reducible first | exact HB.out | apply below_alloc | apply pw_below_drewN | apply below_drew1 | refine below_set ?_ GE385.out | refine below_set ?_ GE389.out | refine below_set ?_ GE408.out) | exact HB.out)))⟩;clear hw;clear HO_390003;clear HO405;clear BK385;clear BK389;clear BK408;clear HB;have HO_390003 := n0_;have HO405 := n1_;have BK385 := n2_;have BK389 := n3_;have BK408 := n4_;have HB := n5_;clear n0_ n1_ n2_ n3_ n4_ n5_;have hnb46 := NB389_385.out;have hnc46 := NB385_389.out;have hcz47_0 : w45.cell? ⟨gb389,0,none⟩ = some (.int .i64 t386) := (blk_cell BK389.out 0).trans rfl;have hcz47_1 : w45.cell? ⟨gb389,1,none⟩ = some (.int .i64 0) := (blk_cell BK389.out 1).trans rfl;have hcz47_2 : w45.cell? ⟨gb389,2,none⟩ = some (.string (⟨#[]⟩ : ByteArray)) := (blk_cell BK389.out 2).trans rfl;have hcz47_3 : w45.cell? ⟨gb389,3,none⟩ = some (u390003) := (blk_cell BK389.out 3).trans rfl;have hfz47_0 := blk_frozen BK389.out 0;have hfz47_1 := blk_frozen BK389.out 1;have hfz47_2 := blk_frozen BK389.out 2;have hfz47_3 := blk_frozen BK389.out 3;have hcz48_0 : w45.cell? ⟨gb408,0,none⟩ = some (.int .i64 t400) := (blk_cell BK408.out 0).trans rfl;have hcz48_1 : w45.cell? ⟨gb408,1,none⟩ = some (.int .i64 t401) := (blk_cell BK408.out 1).trans rfl;have hcz48_2 : w45.cell? ⟨gb408,2,none⟩ = some (.string t402) := (blk_cell BK408.out 2).trans rfl;have hcz48_3 : w45.cell? ⟨gb408,3,none⟩ = some (.slice Ao44 t403.length co44) := (blk_cell BK408.out 3).trans rfl;have hfz48_0 := blk_frozen BK408.out 0;have hfz48_1 := blk_frozen BK408.out 1;have hfz48_2 := blk_frozen BK408.out 2;have hfz48_3 := blk_frozen BK408.out 3) | ((with_reducible refine gate_builtin (b := .append) (xs := #[.tmp 105,.tmp 107]) rfl ?_);at_builtin;refine Kd.R_append k27 (w0 := w) w.heap.size rfl (.tmp 105) (.tmp 107) 25 27 (.agg #[(.int .i64 0),(.int .i64 0),(.string ⟨#[]⟩),(.slice none 0 0)]) 56 rfl Try.underlying25 info27 rfl (by decide) (by omega) u390003 x390003_4 (⟨t400,t401,t402,t403⟩ : S27) [.int .i64 t400,.int .i64 t401,.string t402,.slice Ao44 t403.length co44] (fun k_ => k_ ≠ gb385 ∧ k_ ≠ gb389 ∧ k_ ≠ gb408) (fun k_ => ((fun k_ => k_ ≠ gb385 ∧ k_ ≠ gb389 ∧ k_ ≠ gb408)) k_ ∧ some k_ ≠ (u390003 : Value).ownBlock) rfl rfl ?aP (fun _ hk => hk) ?aF ?aO ?aB ?aS ?aL ?_;(case aP => exact k27_mkM _ _ _ (⟨t400,t401,t402,t403⟩ : S27) (Kd.R_mono (HO405.out) (fun k_ hk => ⟨⟨hk.2.1,⟨hk.2.2.1,hk.2.2.2⟩⟩,hk.1⟩)));(case aB => exact (by repeat (first | (with_reducible first | exact HB.out | apply below_alloc | apply pw_below_drewN | apply below_drew1 | refine below_set ?_ GE385.out | refine below_set ?_ GE389.out | refine below_set ?_ GE408.out) | exact HB.out)));(case aF => exact (fun k_ hk => ⟨Kd.freshB (g := gb385) (o := .cells #[.int .i64 x386000_4,.int .i64 x386001_4,.string x386002_4,.slice none 0 0] 27 (0,0)) (by (with_reducible repeat (first | refine blk_drewN ?_ _ | refine blk_drew ?_ | refine blk_alloc ?_ _));exact BK385.out) k_ hk,Kd.freshB (g := gb389) (o := .cells #[.int .i64 t386,.int .i64 0,.string (⟨#[]⟩ : ByteArray),u390003] 27 (0,0)) (by (with_reducible repeat (first | refine blk_drewN ?_ _ | refine blk_drew ?_ | refine blk_alloc ?_ _));exact BK389.out) k_ hk,Kd.freshB (g := gb408) (o := .cells #[.int .i64 t400,.int .i64 t401,.string t402,.slice Ao44 t403.length co44] 27 (0,0)) (by (with_reducible repeat (first | refine blk_drewN ?_ _ | refine blk_drew ?_ | refine blk_alloc ?_ _));exact BK408.out) k_ hk⟩));(case aO => exact (by (with_reducible repeat (first | apply Kd.R_alloc | apply Kd.R_drewN | apply Kd.R_drew));exact Kd.R_mono HO_390003.out (fun _ hk => ⟨hk.2.1,⟨hk.2.2.1,hk.2.2.2⟩⟩)));(case aS => exact (below_size (by repeat (first | (with_reducible first | exact HB.out | apply below_alloc | apply pw_below_drewN | apply below_drew1 | refine below_set ?_ GE385.out | refine below_set ?_ GE389.out | refine below_set ?_ GE408.out) | exact HB.out))));(case aL => have := LMc38.out;omega);intro v410 w49 ho hb hg hat;rw [← Ny409.out] at ho;have n0_ := Aside0.mk (blk_grown (g := gb385) (o := .cells #[.int .i64 x386000_4,.int .i64 x386001_4,.string x386002_4,.slice none 0 0] 27 (0,0)) (by (with_reducible repeat (first | refine blk_drewN ?_ _ | refine blk_drew ?_ | refine blk_alloc ?_ _));exact BK385.out) hg (Kd.R_away HO_390003.out (fun _ hk => hk.2.1)));have n1_ := Aside0.mk (blk_grown (g := gb389) (o := .cells #[.int .i64 t386,.int .i64 0,.string (⟨#[]⟩ : ByteArray),u390003] 27 (0,0)) (by (with_reducible repeat (first | refine blk_drewN ?_ _ | refine blk_drew ?_ | refine blk_alloc ?_ _));exact BK389.out) hg (Kd.R_away HO_390003.out (fun _ hk => hk.2.2.1)));have n2_ := Aside0.mk (blk_grown (g := gb408) (o := .cells #[.int .i64 t400,.int .i64 t401,.string t402,.slice Ao44 t403.length co44] 27 (0,0)) (by (with_reducible repeat (first | refine blk_drewN ?_ _ | refine blk_drew ?_ | refine blk_alloc ?_ _));exact BK408.out) hg (Kd.R_away HO_390003.out (fun _ hk => hk.2.2.2)));have n3_ := Aside0.mk (hb);have n4_ := Aside0.mk (ho);clear BK385;clear BK389;clear BK408;clear HB;clear HO_390003;clear HO405;have BK385 := n0_;have BK389 := n1_;have BK408 := n2_;have HB := n3_;have HO411 := n4_;clear n0_ n1_ n2_ n3_ n4_;clear ho hb hg hat;obtain ⟨Ao50,co50,eo50⟩ := Kd.R_slice HO411.out;subst eo50;have hcz51_0 : w49.cell? ⟨gb389,0,none⟩ = some (.int .i64 t386) := (blk_cell BK389.out 0).trans rfl;have hcz51_1 : w49.cell? ⟨gb389,1,none⟩ = some (.int .i64 0) := (blk_cell BK389.out 1).trans rfl;have hcz51_2 : w49.cell? ⟨gb389,2,none⟩ = some (.string (⟨#[]⟩ : ByteArray)) := (blk_cell BK389.out 2).trans rfl;have hcz51_3 : w49.cell? ⟨gb389,3,none⟩ = some (u390003) := (blk_cell BK389.out 3).trans rfl;have hfz51_0 := blk_frozen BK389.out 0;have hfz51_1 := blk_frozen BK389.out 1;have hfz51_2 := blk_frozen BK389.out 2;have hfz51_3 := blk_frozen BK389.out 3))
                go_roundg k4
                case measure => have := HJ4.out;have := HJ14.out;have := HJ27.out;have := HK4.out;omega
                case rel => exact ⟨(t406),(wrap64 (x22_4 + 1)),(x386000_4),(x386001_4),(x386002_4),(y409),(.slice Ao50 y409.length co50),(by first | rfl | (simp;done) | (simp [*];done)),(by first | rfl | (simp;done) | (simp [*];done)),H',⟨by have := HJ4.out;have := HJ14.out;have := HJ27.out;have := HK4.out;omega⟩,⟨by (with_reducible repeat (first | apply Kd.R_alloc | apply Kd.R_drewN | apply Kd.R_drew));exact Kd.R_mono (Kd.R_far (p := ⟨gb389,3,none⟩) (Kd.R_mono HO411.out (fun k_ hk => (⟨hk,hk.2.1⟩ : _ ∧ k_ ≠ gb389))) (fun _ hk => hk.2) (.slice Ao50 y409.length co50)) (fun _ hk => ⟨hk.1.1,hk.1.2.1⟩)⟩,⟨by (with_reducible repeat (first | refine blk_drewN ?_ _ | refine blk_drew ?_ | refine blk_alloc ?_ _));refine blk_far ?_ NB385_389.out _;(with_reducible repeat (first | refine blk_drewN ?_ _ | refine blk_drew ?_ | refine blk_alloc ?_ _));exact BK385.out⟩,⟨by (with_reducible repeat (first | refine blk_drewN ?_ _ | refine blk_drew ?_ | refine blk_alloc ?_ _));refine blk_put (cs := #[.int .i64 t386,.int .i64 0,.string (⟨#[]⟩ : ByteArray),u390003]) ?_ 3 _ rfl;(with_reducible repeat (first | refine blk_drewN ?_ _ | refine blk_drew ?_ | refine blk_alloc ?_ _));exact BK389.out⟩,⟨by repeat (first | (with_reducible first | exact HB.out | apply below_alloc | apply pw_below_drewN | apply below_drew1 | refine below_set ?_ GE385.out | refine below_set ?_ GE389.out | refine below_set ?_ GE408.out) | exact HB.out)⟩⟩
               ·rw [if_neg c38] at H
                exact absurd H (by simp)
              ·replace c37 := Bool.eq_false_iff.mpr c37
               subst c37
               have H1 : (some (t386,0,(⟨#[]⟩ : ByteArray),x390003_4,0,false)) = some (r1,r2,r3,r4,r5,r6) := by rw [if_neg (show ¬ (false = true) by decide)] at H;exact H
               clear H
               have H := H1
               clear H1
               simp only [Option.some.injEq,Prod.mk.injEq] at H
               obtain ⟨rfl,rfl,rfl,rfl,rfl,rfl⟩ := H
               go_wp2_with (first | ((with_reducible refine gate_callee (f := 20) rfl ?_);refine goesL_ (some 97) rfl rfl Try.func20 (by kernel_rfl) rfl #[.slice A0 l0.length c0,.int .i64 x20_4,.int .i64 (wrap64 (a2 - 1))] rfl (by (try simp only [List.map_toArray,List.map_cons,List.map_nil]);first | done | rfl | (simp only [List.length_drop,List.length_take];rfl)) ?_;(with_reducible refine (ih k4 (by have := HJ4.out;have := HJ14.out;have := HJ27.out;have := HK4.out;omega) _ _ l0 x20_4 (wrap64 (a2 - 1)) t400 t401 t402 t403 t406 false _ ?side1 ?side2 A36.out).mono ?_);(case side1 => repeat (first | exact (Kd.C_below HR0.out HB.out) | (with_reducible refine Kd.C_alloc ?_ _) | (with_reducible refine Kd.C_drewN ?_ _) | (with_reducible refine Kd.C_drew ?_)));(case side2 => exact HC0.out);rintro e w52 ⟨v404,rfl,ho0,hb⟩;refine ⟨_,rfl,?_⟩;have n0_ := Aside0.mk (Kd.R_elder' (by (with_reducible repeat (first | apply Kd.R_alloc | apply Kd.R_drewN | apply Kd.R_drew));exact HO_390003.out) (Kd.R_base ho0) hb);have n1_ := Aside0.mk (Kd.R_lower (Kd.R_newB (Kd.R_newB (Kd.R_new' ho0 (Kd.R_lt (by (with_reducible repeat (first | apply Kd.R_alloc | apply Kd.R_drewN | apply Kd.R_drew));exact HO_390003.out))) (g := gb385) (o := .cells #[.int .i64 x386000_4,.int .i64 x386001_4,.string x386002_4,.slice none 0 0] 27 (0,0)) (by (with_reducible repeat (first | refine blk_drewN ?_ _ | refine blk_drew ?_ | refine blk_alloc ?_ _));exact BK385.out)) (g := gb389) (o := .cells #[.int .i64 t386,.int .i64 0,.string (⟨#[]⟩ : ByteArray),u390003] 27 (0,0)) (by (with_reducible repeat (first | refine blk_drewN ?_ _ | refine blk_drew ?_ | refine blk_alloc ?_ _));exact BK389.out)) (below_size (by repeat (first | (with_reducible first | exact HB.out | apply below_alloc | apply pw_below_drewN | apply below_drew1 | refine below_set ?_ GE385.out | refine below_set ?_ GE389.out) | exact HB.out))));have n2_ := Aside0.mk (blk_below (g := gb385) (o := .cells #[.int .i64 x386000_4,.int .i64 x386001_4,.string x386002_4,.slice none 0 0] 27 (0,0)) (by (with_reducible repeat (first | refine blk_drewN ?_ _ | refine blk_drew ?_ | refine blk_alloc ?_ _));exact BK385.out) hb);have n3_ := Aside0.mk (blk_below (g := gb389) (o := .cells #[.int .i64 t386,.int .i64 0,.string (⟨#[]⟩ : ByteArray),u390003] 27 (0,0)) (by (with_reducible repeat (first | refine blk_drewN ?_ _ | refine blk_drew ?_ | refine blk_alloc ?_ _));exact BK389.out) hb);have n4_ := Aside0.mk (below_step (by repeat (first | (with_reducible first | exact HB.out | apply below_alloc | apply pw_below_drewN | apply below_drew1 | refine below_set ?_ GE385.out | refine below_set ?_ GE389.out) | exact HB.out)) hb);clear HO_390003;clear BK385;clear BK389;clear HB;have HO_390003 := n0_;have HO405 := n1_;have BK385 := n2_;have BK389 := n3_;have HB := n4_;clear n0_ n1_ n2_ n3_ n4_;(try clear hb);(try clear hb2);(try clear hk);(try clear hi);(try clear ho0)) | ((with_reducible refine gate_dst (N := 23) rfl ?_);refine box_event ?hg (N := 23) ?hd (cs := #[.int .i64 0,.int .i64 0,.string (⟨#[]⟩ : ByteArray),.slice none 0 0]) (t := 27) ?hr ?_;(case hd => rfl);(case hg => rfl);(case hr => first | (go_simp;done) | (go_simp;rfl));intro gb408 hg w53 hbox hb;have n0_ := Aside0.mk (Kd.R_below (Kd.R_elderB (by (with_reducible repeat (first | apply Kd.R_alloc | apply Kd.R_drewN | apply Kd.R_drew));exact HO_390003.out) gb408 (Nat.le_of_eq hg.symm)) hb);have n1_ := Aside0.mk (Kd.R_below (Kd.R_elderB (by (with_reducible repeat (first | apply Kd.R_alloc | apply Kd.R_drewN | apply Kd.R_drew));exact HO405.out) gb408 (Nat.le_of_eq hg.symm)) hb);have n2_ := Aside0.mk (blk_below (g := gb385) (o := .cells #[.int .i64 x386000_4,.int .i64 x386001_4,.string x386002_4,.slice none 0 0] 27 (0,0)) (by (with_reducible repeat (first | refine blk_drewN ?_ _ | refine blk_drew ?_ | refine blk_alloc ?_ _));exact BK385.out) hb);have n3_ := Aside0.mk (blk_below (g := gb389) (o := .cells #[.int .i64 t386,.int .i64 0,.string (⟨#[]⟩ : ByteArray),u390003] 27 (0,0)) (by (with_reducible repeat (first | refine blk_drewN ?_ _ | refine blk_drew ?_ | refine blk_alloc ?_ _));exact BK389.out) hb);have n4_ := Aside0.mk (below_step (by repeat (first | (with_reducible first | exact HB.out | apply below_alloc | apply pw_below_drewN | apply below_drew1 | refine below_set ?_ GE385.out | refine below_set ?_ GE389.out) | exact HB.out)) hb);have n5_ := Aside0.mk (hbox);have n6_ := Aside0.mk ((by rw [hg];exact (below_size (by repeat (first | (with_reducible first | exact HB.out | apply below_alloc | apply pw_below_drewN | apply below_drew1 | refine below_set ?_ GE385.out | refine below_set ?_ GE389.out) | exact HB.out))) : w.heap.size ≤ gb408));have n7_ := Aside0.mk ((by rw [hg];exact (below_size (by repeat (first | (with_reducible first | exact HB.out | apply below_alloc | apply pw_below_drewN | apply below_drew1 | refine below_set ?_ GE385.out | refine below_set ?_ GE389.out) | exact HB.out))) : w.heap.size ≤ gb408));have n8_ := Aside0.mk ((by rw [hg];exact Nat.ne_of_lt (blk_lt (g := gb385) (o := .cells #[.int .i64 x386000_4,.int .i64 x386001_4,.string x386002_4,.slice none 0 0] 27 (0,0)) (by (with_reducible repeat (first | refine blk_drewN ?_ _ | refine blk_drew ?_ | refine blk_alloc ?_ _));exact BK385.out)) : gb385 ≠ gb408));have n9_ := Aside0.mk ((by rw [hg];exact Nat.ne_of_gt (blk_lt (g := gb385) (o := .cells #[.int .i64 x386000_4,.int .i64 x386001_4,.string x386002_4,.slice none 0 0] 27 (0,0)) (by (with_reducible repeat (first | refine blk_drewN ?_ _ | refine blk_drew ?_ | refine blk_alloc ?_ _));exact BK385.out)) : gb408 ≠ gb385));have n10_ := Aside0.mk ((by rw [hg];exact Nat.ne_of_lt (blk_lt (g := gb389) (o := .cells #[.int .i64 t386,.int .i64 0,.string (⟨#[]⟩ : ByteArray),u390003] 27 (0,0)) (by (with_reducible repeat (first | refine blk_drewN ?_ _ | refine blk_drew ?_ | refine blk_alloc ?_ _));exact BK389.out)) : gb389 ≠ gb408));have n11_ := Aside0.mk ((by rw [hg];exact Nat.ne_of_gt (blk_lt (g := gb389) (o := .cells #[.int .i64 t386,.int .i64 0,.string (⟨#[]⟩ : ByteArray),u390003] 27 (0,0)) (by (with_reducible repeat (first | refine blk_drewN ?_ _ | refine blk_drew ?_ | refine blk_alloc ?_ _));exact BK389.out)) : gb408 ≠ gb389));clear HO_390003;clear HO405;clear BK385;clear BK389;clear HB;have HO_390003 := n0_;have HO405 := n1_;have BK385 := n2_;have BK389 := n3_;have HB := n4_;have BK408 := n5_;have GW408 := n6_;have GE408 := n7_;have NB385_408 := n8_;have NB408_385 := n9_;have NB389_408 := n10_;have NB408_389 := n11_;clear n0_ n1_ n2_ n3_ n4_ n5_ n6_ n7_ n8_ n9_ n10_ n11_;clear hb hbox hg;have hnb54 := NB408_385.out;have hnc54 := NB385_408.out;have hnb55 := NB408_389.out;have hnc55 := NB389_408.out;have hcz56_0 : w53.cell? ⟨gb408,0,none⟩ = some (.int .i64 0) := (blk_cell BK408.out 0).trans rfl;have hcz56_1 : w53.cell? ⟨gb408,1,none⟩ = some (.int .i64 0) := (blk_cell BK408.out 1).trans rfl;have hcz56_2 : w53.cell? ⟨gb408,2,none⟩ = some (.string (⟨#[]⟩ : ByteArray)) := (blk_cell BK408.out 2).trans rfl;have hcz56_3 : w53.cell? ⟨gb408,3,none⟩ = some (.slice none 0 0) := (blk_cell BK408.out 3).trans rfl;have hfz56_0 := blk_frozen BK408.out 0;have hfz56_1 := blk_frozen BK408.out 1;have hfz56_2 := blk_frozen BK408.out 2;have hfz56_3 := blk_frozen BK408.out 3;obtain ⟨Ao57,co57,eo57⟩ := Kd.R_slice HO405.out;subst eo57;have hnb58 := NB389_385.out;have hnc58 := NB385_389.out;have hcz59_0 : w53.cell? ⟨gb389,0,none⟩ = some (.int .i64 t386) := (blk_cell BK389.out 0).trans rfl;have hcz59_1 : w53.cell? ⟨gb389,1,none⟩ = some (.int .i64 0) := (blk_cell BK389.out 1).trans rfl;have hcz59_2 : w53.cell? ⟨gb389,2,none⟩ = some (.string (⟨#[]⟩ : ByteArray)) := (blk_cell BK389.out 2).trans rfl;have hcz59_3 : w53.cell? ⟨gb389,3,none⟩ = some (u390003) := (blk_cell BK389.out 3).trans rfl;have hfz59_0 := blk_frozen BK389.out 0;have hfz59_1 := blk_frozen BK389.out 1;have hfz59_2 := blk_frozen BK389.out 2;have hfz59_3 := blk_frozen BK389.out 3;have hcz60_0 : w53.cell? ⟨gb385,0,none⟩ = some (.int .i64 x386000_4) := (blk_cell BK385.out 0).trans rfl;have hcz60_1 : w53.cell? ⟨gb385,1,none⟩ = some (.int .i64 x386001_4) := (blk_cell BK385.out 1).trans rfl;have hcz60_2 : w53.cell? ⟨gb385,2,none⟩ = some (.string x386002_4) := (blk_cell BK385.out 2).trans rfl;have hcz60_3 : w53.cell? ⟨gb385,3,none⟩ = some (.slice none 0 0) := (blk_cell BK385.out 3).trans rfl;have hfz60_0 := blk_frozen BK385.out 0;have hfz60_1 := blk_frozen BK385.out 1;have hfz60_2 := blk_frozen BK385.out 2;have hfz60_3 := blk_frozen BK385.out 3;obtain ⟨Ao61,co61,eo61⟩ := Kd.R_slice HO_390003.out;subst eo61))
               refine bodyPost_ret (results_ctt rfl _ _ gb385 27 #[.int .i64 t386,.int .i64 0,.string (⟨#[]⟩ : ByteArray),.slice Ao61 x390003_4.length co61] (0,0) _ rfl (by (with_reducible repeat (first | refine blk_drewN ?_ _ | refine blk_drew ?_ | refine blk_alloc ?_ _));refine blk_put (cs := #[.int .i64 t386,.int .i64 0,.string (⟨#[]⟩ : ByteArray),.slice none 0 0]) ?_ 3 _ rfl;(with_reducible repeat (first | refine blk_drewN ?_ _ | refine blk_drew ?_ | refine blk_alloc ?_ _));refine blk_put (cs := #[.int .i64 t386,.int .i64 0,.string x386002_4,.slice none 0 0]) ?_ 2 _ rfl;(with_reducible repeat (first | refine blk_drewN ?_ _ | refine blk_drew ?_ | refine blk_alloc ?_ _));refine blk_put (cs := #[.int .i64 t386,.int .i64 x386001_4,.string x386002_4,.slice none 0 0]) ?_ 1 _ rfl;(with_reducible repeat (first | refine blk_drewN ?_ _ | refine blk_drew ?_ | refine blk_alloc ?_ _));refine blk_put (cs := #[.int .i64 x386000_4,.int .i64 x386001_4,.string x386002_4,.slice none 0 0]) ?_ 0 _ rfl;(with_reducible repeat (first | refine blk_drewN ?_ _ | refine blk_drew ?_ | refine blk_alloc ?_ _));refine blk_far ?_ NB385_408.out _;(with_reducible repeat (first | refine blk_drewN ?_ _ | refine blk_drew ?_ | refine blk_alloc ?_ _));refine blk_far ?_ NB385_408.out _;(with_reducible repeat (first | refine blk_drewN ?_ _ | refine blk_drew ?_ | refine blk_alloc ?_ _));refine blk_far ?_ NB385_408.out _;(with_reducible repeat (first | refine blk_drewN ?_ _ | refine blk_drew ?_ | refine blk_alloc ?_ _));refine blk_far ?_ NB385_408.out _;(with_reducible repeat (first | refine blk_drewN ?_ _ | refine blk_drew ?_ | refine blk_alloc ?_ _));exact BK385.out) Try.underlying27 rfl (by kernel_rfl)) rfl ?_
               exact ⟨_,by first | rfl | (simp [*,errW_none,errW_some] <;> rfl),by (with_reducible repeat (first | apply Kd.R_alloc | apply Kd.R_drewN | apply Kd.R_drew));exact Kd.R_mono (Kd.R_far (p := ⟨gb385,3,none⟩) (Kd.R_far (p := ⟨gb385,2,none⟩) (Kd.R_far (p := ⟨gb385,1,none⟩) (Kd.R_far (p := ⟨gb385,0,none⟩) (Kd.R_far (p := ⟨gb408,3,none⟩) (Kd.R_far (p := ⟨gb408,2,none⟩) (Kd.R_far (p := ⟨gb408,1,none⟩) (Kd.R_far (p := ⟨gb408,0,none⟩) (Kd.R_mono (Kd.R_mono HO_390003.out (fun k_ hk => (⟨hk,hk.2⟩ : _ ∧ k_ ≠ gb408))) (fun k_ hk => (⟨hk,hk.1.1.1.1⟩ : _ ∧ k_ ≠ gb385))) (fun _ hk => hk.1.2) (.int .i64 t400)) (fun _ hk => hk.1.2) (.int .i64 t401)) (fun _ hk => hk.1.2) (.string t402)) (fun _ hk => hk.1.2) (.slice Ao57 t403.length co57)) (fun _ hk => hk.2) (.int .i64 t386)) (fun _ hk => hk.2) (.int .i64 0)) (fun _ hk => hk.2) (.string (⟨#[]⟩ : ByteArray))) (fun _ hk => hk.2) (.slice Ao61 x390003_4.length co61)) (fun _ hk => trivial),by repeat (first | (with_reducible first | exact HB.out | apply below_alloc | apply pw_below_drewN | apply below_drew1 | refine below_set ?_ GE385.out | refine below_set ?_ GE389.out | refine below_set ?_ GE408.out) | exact HB.out)⟩
             ·rw [if_neg c35] at H
              have c35b0 : decide (x22_4 < t396) = false := decide_eq_false c35
              clear c35
              simp only [Option.some.injEq,Prod.mk.injEq] at H
              obtain ⟨rfl,rfl,rfl,rfl,rfl,rfl⟩ := H
              have hnb62 := NB389_385.out
              have hnc62 := NB385_389.out
              have hcz63_0 : wr.cell? ⟨gb389,0,none⟩ = some (.int .i64 t386) := (blk_cell BK389.out 0).trans rfl
              have hcz63_1 : wr.cell? ⟨gb389,1,none⟩ = some (.int .i64 0) := (blk_cell BK389.out 1).trans rfl
              have hcz63_2 : wr.cell? ⟨gb389,2,none⟩ = some (.string (⟨#[]⟩ : ByteArray)) := (blk_cell BK389.out 2).trans rfl
              have hcz63_3 : wr.cell? ⟨gb389,3,none⟩ = some (u390003) := (blk_cell BK389.out 3).trans rfl
              have hfz63_0 := blk_frozen BK389.out 0
              have hfz63_1 := blk_frozen BK389.out 1
              have hfz63_2 := blk_frozen BK389.out 2
              have hfz63_3 := blk_frozen BK389.out 3
              have hcz64_0 : wr.cell? ⟨gb385,0,none⟩ = some (.int .i64 x386000_4) := (blk_cell BK385.out 0).trans rfl
              have hcz64_1 : wr.cell? ⟨gb385,1,none⟩ = some (.int .i64 x386001_4) := (blk_cell BK385.out 1).trans rfl
              have hcz64_2 : wr.cell? ⟨gb385,2,none⟩ = some (.string x386002_4) := (blk_cell BK385.out 2).trans rfl
              have hcz64_3 : wr.cell? ⟨gb385,3,none⟩ = some (.slice none 0 0) := (blk_cell BK385.out 3).trans rfl
              have hfz64_0 := blk_frozen BK385.out 0
              have hfz64_1 := blk_frozen BK385.out 1
              have hfz64_2 := blk_frozen BK385.out 2
              have hfz64_3 := blk_frozen BK385.out 3
              obtain ⟨Ao65,co65,eo65⟩ := Kd.R_slice HO_390003.out
              subst eo65
              go_wp2
              refine bodyPost_ret (results_ctt rfl _ _ gb385 27 #[.int .i64 t386,.int .i64 0,.string (⟨#[]⟩ : ByteArray),.slice Ao65 x390003_4.length co65] (0,0) _ rfl (by (with_reducible repeat (first | refine blk_drewN ?_ _ | refine blk_drew ?_ | refine blk_alloc ?_ _));refine blk_put (cs := #[.int .i64 t386,.int .i64 0,.string (⟨#[]⟩ : ByteArray),.slice none 0 0]) ?_ 3 _ rfl;(with_reducible repeat (first | refine blk_drewN ?_ _ | refine blk_drew ?_ | refine blk_alloc ?_ _));refine blk_put (cs := #[.int .i64 t386,.int .i64 0,.string x386002_4,.slice none 0 0]) ?_ 2 _ rfl;(with_reducible repeat (first | refine blk_drewN ?_ _ | refine blk_drew ?_ | refine blk_alloc ?_ _));refine blk_put (cs := #[.int .i64 t386,.int .i64 x386001_4,.string x386002_4,.slice none 0 0]) ?_ 1 _ rfl;(with_reducible repeat (first | refine blk_drewN ?_ _ | refine blk_drew ?_ | refine blk_alloc ?_ _));refine blk_put (cs := #[.int .i64 x386000_4,.int .i64 x386001_4,.string x386002_4,.slice none 0 0]) ?_ 0 _ rfl;(with_reducible repeat (first | refine blk_drewN ?_ _ | refine blk_drew ?_ | refine blk_alloc ?_ _));exact BK385.out) Try.underlying27 rfl (by kernel_rfl)) rfl ?_
              exact ⟨_,by first | rfl | (simp [*,errW_none,errW_some] <;> rfl),by (with_reducible repeat (first | apply Kd.R_alloc | apply Kd.R_drewN | apply Kd.R_drew));exact Kd.R_mono (Kd.R_far (p := ⟨gb385,3,none⟩) (Kd.R_far (p := ⟨gb385,2,none⟩) (Kd.R_far (p := ⟨gb385,1,none⟩) (Kd.R_far (p := ⟨gb385,0,none⟩) (Kd.R_mono HO_390003.out (fun k_ hk => (⟨hk,hk.1⟩ : _ ∧ k_ ≠ gb385))) (fun _ hk => hk.2) (.int .i64 t386)) (fun _ hk => hk.2) (.int .i64 0)) (fun _ hk => hk.2) (.string (⟨#[]⟩ : ByteArray))) (fun _ hk => hk.2) (.slice Ao65 x390003_4.length co65)) (fun _ hk => trivial),by repeat (first | (with_reducible first | exact HB.out | apply below_alloc | apply pw_below_drewN | apply below_drew1 | refine below_set ?_ GE385.out | refine below_set ?_ GE389.out) | exact HB.out)⟩

/-! ### spec_GetTerm: function 7 -/
def spec_GetTerm.f (k : Nat) (l0 : List Int) : Option (Int × Int × ByteArray × (List (S27)) × Bool) := (spec_l2Get.f k l0 0 8).bind fun bt413 => (if bt413.2.2.2.2.2 = true then (if bt413.2.2.2.2.1 = (l0.length : Int) then ((spec_TermOk.f k bt413.1 bt413.2.1 bt413.2.2.1 bt413.2.2.2.1).bind fun t422 => (if t422 = true then (some (bt413.1,bt413.2.1,bt413.2.2.1,bt413.2.2.2.1,true)) else (some (0,0,(⟨#[]⟩ : ByteArray),([] : List (S27)),false)))) else (some (0,0,(⟨#[]⟩ : ByteArray),([] : List (S27)),false))) else (some (0,0,(⟨#[]⟩ : ByteArray),([] : List (S27)),false)))
theorem spec_GetTerm.mono : ∀ a0 k,LeO (spec_GetTerm.f k a0) (spec_GetTerm.f (k + 1) a0) := by
 intro a0 k
 unfold spec_GetTerm.f
 repeat' first
   | (with_reducible exact spec_TermOk.mono _ _ _ _ _)
   | (with_reducible exact spec_l2Get.mono _ _ _ _)
   | (with_reducible exact LeO.refl _)
   | (with_reducible exact LeO.none _)
   | (with_reducible refine LeO.ite ?_ ?_)
   | (with_reducible refine LeO.bind ?_ (fun _ => ?_))
   | exact spec_TermOk.mono _ _ _ _ _
   | exact spec_l2Get.mono _ _ _ _
   | exact LeO.none _
   | refine LeO.ite ?_ ?_
   | refine LeO.bind ?_ (fun _ => ?_)
set_option maxHeartbeats 8000000 in
set_option maxRecDepth 100000 in
theorem spec_GetTerm.calls (k : Nat) (A0 : Option Addr) (c0 : Nat) (l0 : List Int) (r1 : Int) (r2 : Int) (r3 : ByteArray) (r4 : List (S27)) (r5 : Bool) (w : World) (hr0 : Kd.C (Kd.int .u8) w A0 l0.length l0) (hc0 : l0.length ≤ c0) (h : spec_GetTerm.f k l0 = some (r1,r2,r3,r4,r5)) :
  Calls Try.prog 7 #[.slice A0 l0.length c0] w fun e w' => ∃ v3_ : Value,e = .returned (.tuple #[.agg #[.int .i64 r1,.int .i64 r2,.string r3,v3_],.bool r5]) ∧ Kd.R k27 27 w' w.heap.size (fun _ => True) v3_ r4 ∧ Below w.heap.size w w' := by
 have hu27 := Try.underlying27
 have HR0 := Aside0.mk hr0
 have HC0 := Aside0.mk hc0
 clear hr0 hc0
 have HB := Aside0.mk (Below.refl w.heap.size w)
 have H : ((spec_l2Get.f k l0 0 8).bind fun bt413 => (if bt413.2.2.2.2.2 = true then (if bt413.2.2.2.2.1 = (l0.length : Int) then ((spec_TermOk.f k bt413.1 bt413.2.1 bt413.2.2.1 bt413.2.2.2.1).bind fun t422 => (if t422 = true then (some (bt413.1,bt413.2.1,bt413.2.2.1,bt413.2.2.2.1,true)) else (some (0,0,(⟨#[]⟩ : ByteArray),([] : List (S27)),false)))) else (some (0,0,(⟨#[]⟩ : ByteArray),([] : List (S27)),false))) else (some (0,0,(⟨#[]⟩ : ByteArray),([] : List (S27)),false)))) = some (r1,r2,r3,r4,r5) := h
 clear h
 replace H := Option.bind_eq_some_iff.mp H
 obtain ⟨⟨t413,t414,t415,t416,t419,t420⟩,A20,H⟩ := H
 replace H : (if t420 = true then (if t419 = (l0.length : Int) then ((spec_TermOk.f k t413 t414 t415 t416).bind fun t422 => (if t422 = true then (some (t413,t414,t415,t416,true)) else (some (0,0,(⟨#[]⟩ : ByteArray),([] : List (S27)),false)))) else (some (0,0,(⟨#[]⟩ : ByteArray),([] : List (S27)),false))) else (some (0,0,(⟨#[]⟩ : ByteArray),([] : List (S27)),false))) = some (r1,r2,r3,r4,r5) := H
 have A2 := Aside0.mk A20
 clear A20
 by_cases c3 : t420 = true
 ·subst c3
  have H1 : (if t419 = (l0.length : Int) then ((spec_TermOk.f k t413 t414 t415 t416).bind fun t422 => (if t422 = true then (some (t413,t414,t415,t416,true)) else (some (0,0,(⟨#[]⟩ : ByteArray),([] : List (S27)),false)))) else (some (0,0,(⟨#[]⟩ : ByteArray),([] : List (S27)),false))) = some (r1,r2,r3,r4,r5) := by rw [if_pos rfl] at H;exact H
  clear H
  have H := H1
  clear H1
  by_cases c4 : t419 = (l0.length : Int)
  ·rw [if_pos c4] at H
   have c4b0 : (t419 == (l0.length : Int)) = true := beq_iff_eq.mpr c4
   have c4b1 : (t419 != (l0.length : Int)) = false := bne_eq_false_iff_eq.mpr c4
   clear c4
   replace H := Option.bind_eq_some_iff.mp H
   obtain ⟨t422,A50,H⟩ := H
   replace H : (if t422 = true then (some (t413,t414,t415,t416,true)) else (some (0,0,(⟨#[]⟩ : ByteArray),([] : List (S27)),false))) = some (r1,r2,r3,r4,r5) := H
   have A5 := Aside0.mk A50
   clear A50
   by_cases c6 : t422 = true
   ·subst c6
    have H1 : (some (t413,t414,t415,t416,true)) = some (r1,r2,r3,r4,r5) := by rw [if_pos rfl] at H;exact H
    clear H
    have H := H1
    clear H1
    simp only [Option.some.injEq,Prod.mk.injEq] at H
    obtain ⟨rfl,rfl,rfl,rfl,rfl⟩ := H
    go_enter Try.func7,Try.ntmps7
    go_wp2_with (first | ((with_reducible refine gate_dst (N := 2) rfl ?_);(try (refine gate_guard (by rfl) ?_;dsimp only));refine box_event ?hg (N := 2) ?hd (cs := #[.int .i64 0,.int .i64 0,.string (⟨#[]⟩ : ByteArray),.slice none 0 0]) (t := 27) ?hr ?_;(case hd => rfl);(case hg => rfl);(case hr => first | (go_simp;done) | (go_simp;rfl));intro gb412 hg w7 hbox hb;have n0_ := Aside0.mk (below_step (by repeat (first | (with_reducible first | exact HB.out | apply below_alloc | apply pw_below_drewN | apply below_drew1) | exact HB.out)) hb);have n1_ := Aside0.mk (hbox);have n2_ := Aside0.mk ((by rw [hg];exact (below_size (by repeat (first | (with_reducible first | exact HB.out | apply below_alloc | apply pw_below_drewN | apply below_drew1) | exact HB.out))) : w.heap.size ≤ gb412));have n3_ := Aside0.mk ((by rw [hg];exact (below_size (by repeat (first | (with_reducible first | exact HB.out | apply below_alloc | apply pw_below_drewN | apply below_drew1) | exact HB.out))) : w.heap.size ≤ gb412));clear HB;have HB := n0_;have BK412 := n1_;have GW412 := n2_;have GE412 := n3_;clear n0_ n1_ n2_ n3_;clear hb hbox hg) | ((with_reducible refine gate_callee (f := 20) rfl ?_);refine goesL_ (some 9) rfl rfl Try.func20 (by kernel_rfl) rfl #[.slice A0 l0.length c0,.int .i64 0,.int .i64 8] rfl (by (try simp only [List.map_toArray,List.map_cons,List.map_nil]);first | done | rfl | (simp only [List.length_drop,List.length_take];rfl)) ?_;(with_reducible refine (spec_l2Get.calls k _ _ l0 0 8 t413 t414 t415 t416 t419 true _ ?side1 ?side2 A2.out).mono ?_);(case side1 => repeat (first | exact (Kd.C_below HR0.out HB.out) | (with_reducible refine Kd.C_alloc ?_ _) | (with_reducible refine Kd.C_drewN ?_ _) | (with_reducible refine Kd.C_drew ?_)));(case side2 => exact HC0.out);rintro e w8 ⟨v417,rfl,ho0,hb⟩;refine ⟨_,rfl,?_⟩;have n0_ := Aside0.mk (Kd.R_lower (Kd.R_newB ho0 (g := gb412) (o := .cells #[.int .i64 0,.int .i64 0,.string (⟨#[]⟩ : ByteArray),.slice none 0 0] 27 (0,0)) (by (with_reducible repeat (first | refine blk_drewN ?_ _ | refine blk_drew ?_ | refine blk_alloc ?_ _));exact BK412.out)) (below_size (by repeat (first | (with_reducible first | exact HB.out | apply below_alloc | apply pw_below_drewN | apply below_drew1 | refine below_set ?_ GE412.out) | exact HB.out))));have n1_ := Aside0.mk (blk_below (g := gb412) (o := .cells #[.int .i64 0,.int .i64 0,.string (⟨#[]⟩ : ByteArray),.slice none 0 0] 27 (0,0)) (by (with_reducible repeat (first | refine blk_drewN ?_ _ | refine blk_drew ?_ | refine blk_alloc ?_ _));exact BK412.out) hb);have n2_ := Aside0.mk (below_step (by repeat (first | (with_reducible first | exact HB.out | apply below_alloc | apply pw_below_drewN | apply below_drew1 | refine below_set ?_ GE412.out) | exact HB.out)) hb);clear BK412;clear HB;have HO418 := n0_;have BK412 := n1_;have HB := n2_;clear n0_ n1_ n2_;(try clear hb);(try clear hb2);(try clear hk);(try clear hi);(try clear ho0)) | ((with_reducible refine gate_dst (N := 4) rfl ?_);(try (refine gate_guard (by rfl) ?_;dsimp only));refine box_event ?hg (N := 4) ?hd (cs := #[.int .i64 0,.int .i64 0,.string (⟨#[]⟩ : ByteArray),.slice none 0 0]) (t := 27) ?hr ?_;(case hd => rfl);(case hg => rfl);(case hr => first | (go_simp;done) | (go_simp;rfl));intro gb421 hg w9 hbox hb;have n0_ := Aside0.mk (Kd.R_below (Kd.R_elderB (by (with_reducible repeat (first | apply Kd.R_alloc | apply Kd.R_drewN | apply Kd.R_drew));exact HO418.out) gb421 (Nat.le_of_eq hg.symm)) hb);have n1_ := Aside0.mk (blk_below (g := gb412) (o := .cells #[.int .i64 0,.int .i64 0,.string (⟨#[]⟩ : ByteArray),.slice none 0 0] 27 (0,0)) (by (with_reducible repeat (first | refine blk_drewN ?_ _ | refine blk_drew ?_ | refine blk_alloc ?_ _));exact BK412.out) hb);have n2_ := Aside0.mk (below_step (by repeat (first | (with_reducible first | exact HB.out | apply below_alloc | apply pw_below_drewN | apply below_drew1 | refine below_set ?_ GE412.out) | exact HB.out)) hb);have n3_ := Aside0.mk (hbox);have n4_ := Aside0.mk ((by rw [hg];exact (below_size (by repeat (first | (with_reducible first | exact HB.out | apply below_alloc | apply pw_below_drewN | apply below_drew1 | refine below_set ?_ GE412.out) | exact HB.out))) : w.heap.size ≤ gb421));have n5_ := Aside0.mk ((by rw [hg];exact (below_size (by repeat (first | (with_reducible first | exact HB.out | apply below_alloc | apply pw_below_drewN | apply below_drew1 | refine below_set ?_ GE412.out) | exact HB.out))) : w.heap.size ≤ gb421));have n6_ := Aside0.mk ((by rw [hg];exact Nat.ne_of_lt (blk_lt (g := gb412) (o := .cells #[.int .i64 0,.int .i64 0,.string (⟨#[]⟩ : ByteArray),.slice none 0 0] 27 (0,0)) (by (with_reducible repeat (first | refine blk_drewN ?_ _ | refine blk_drew ?_ | refine blk_alloc ?_ _));exact BK412.out)) : gb412 ≠ gb421));have n7_ := Aside0.mk ((by rw [hg];exact Nat.ne_of_gt (blk_lt (g := gb412) (o := .cells #[.int .i64 0,.int .i64 0,.string (⟨#[]⟩ : ByteArray),.slice none 0 0] 27 (0,0)) (by (with_reducible repeat (first | refine blk_drewN ?_ _ | refine blk_drew ?_ | refine blk_alloc ?_ _));exact BK412.out)) : gb421 ≠ gb412));clear HO418;clear BK412;clear HB;have HO418 := n0_;have BK412 := n1_;have HB := n2_;have BK421 := n3_;have GW421 := n4_;have GE421 := n5_;have NB412_421 := n6_;have NB421_412 := n7_;clear n0_ n1_ n2_ n3_ n4_ n5_ n6_ n7_;clear hb hbox hg;have hnb10 := NB421_412.out;have hnc10 := NB412_421.out;have hcz11_0 : w9.cell? ⟨gb421,0,none⟩ = some (.int .i64 0) := (blk_cell BK421.out 0).trans rfl;have hcz11_1 : w9.cell? ⟨gb421,1,none⟩ = some (.int .i64 0) := (blk_cell BK421.out 1).trans rfl;have hcz11_2 : w9.cell? ⟨gb421,2,none⟩ = some (.string (⟨#[]⟩ : ByteArray)) := (blk_cell BK421.out 2).trans rfl;have hcz11_3 : w9.cell? ⟨gb421,3,none⟩ = some (.slice none 0 0) := (blk_cell BK421.out 3).trans rfl;have hfz11_0 := blk_frozen BK421.out 0;have hfz11_1 := blk_frozen BK421.out 1;have hfz11_2 := blk_frozen BK421.out 2;have hfz11_3 := blk_frozen BK421.out 3;obtain ⟨Ao12,co12,eo12⟩ := Kd.R_slice HO418.out;subst eo12) | (go_at_call 21;(with_reducible refine (spec_TermOk.calls k t413 t414 t415 _ _ t416 true _ ?side1 ?side2 A5.out).mono ?_);(case side1 => refine (Kd.R_reads' (e := 27) (base := w.heap.size) (ok := fun k_ => ((True ∧ k_ ≠ gb412) ∧ k_ ≠ gb421)) (n := t416.length) (c := co12) ?_).2.2;exact (by (with_reducible repeat (first | apply Kd.R_alloc | apply Kd.R_drewN | apply Kd.R_drew));exact (Kd.R_mono (Kd.R_far (p := ⟨gb421,3,none⟩) (Kd.R_far (p := ⟨gb421,2,none⟩) (Kd.R_far (p := ⟨gb421,1,none⟩) (Kd.R_far (p := ⟨gb421,0,none⟩) (Kd.R_mono HO418.out (fun k_ hk => (⟨hk,hk.2⟩ : _ ∧ k_ ≠ gb421))) (fun _ hk => hk.2) (.int .i64 t413)) (fun _ hk => hk.2) (.int .i64 t414)) (fun _ hk => hk.2) (.string t415)) (fun _ hk => hk.2) (.slice Ao12 t416.length co12)) (fun _ h_ => h_.1))));(case side2 => exact (Kd.R_reads' HO418.out).2.1);rintro e w13 ⟨rfl,hb⟩;have n0_ := Aside0.mk (Kd.R_below (by (with_reducible repeat (first | apply Kd.R_alloc | apply Kd.R_drewN | apply Kd.R_drew));exact (Kd.R_mono (Kd.R_far (p := ⟨gb421,3,none⟩) (Kd.R_far (p := ⟨gb421,2,none⟩) (Kd.R_far (p := ⟨gb421,1,none⟩) (Kd.R_far (p := ⟨gb421,0,none⟩) (Kd.R_mono HO418.out (fun k_ hk => (⟨hk,hk.2⟩ : _ ∧ k_ ≠ gb421))) (fun _ hk => hk.2) (.int .i64 t413)) (fun _ hk => hk.2) (.int .i64 t414)) (fun _ hk => hk.2) (.string t415)) (fun _ hk => hk.2) (.slice Ao12 t416.length co12)) (fun _ h_ => h_.1))) hb);have n1_ := Aside0.mk (blk_below (g := gb412) (o := .cells #[.int .i64 0,.int .i64 0,.string (⟨#[]⟩ : ByteArray),.slice none 0 0] 27 (0,0)) (by (with_reducible repeat (first | refine blk_drewN ?_ _ | refine blk_drew ?_ | refine blk_alloc ?_ _));refine blk_far ?_ NB412_421.out _;(with_reducible repeat (first | refine blk_drewN ?_ _ | refine blk_drew ?_ | refine blk_alloc ?_ _));refine blk_far ?_ NB412_421.out _;(with_reducible repeat (first | refine blk_drewN ?_ _ | refine blk_drew ?_ | refine blk_alloc ?_ _));refine blk_far ?_ NB412_421.out _;(with_reducible repeat (first | refine blk_drewN ?_ _ | refine blk_drew ?_ | refine blk_alloc ?_ _));refine blk_far ?_ NB412_421.out _;(with_reducible repeat (first | refine blk_drewN ?_ _ | refine blk_drew ?_ | refine blk_alloc ?_ _));exact BK412.out) hb);have n2_ := Aside0.mk (blk_below (g := gb421) (o := .cells #[.int .i64 t413,.int .i64 t414,.string t415,.slice Ao12 t416.length co12] 27 (0,0)) (by (with_reducible repeat (first | refine blk_drewN ?_ _ | refine blk_drew ?_ | refine blk_alloc ?_ _));refine blk_put (cs := #[.int .i64 t413,.int .i64 t414,.string t415,.slice none 0 0]) ?_ 3 _ rfl;(with_reducible repeat (first | refine blk_drewN ?_ _ | refine blk_drew ?_ | refine blk_alloc ?_ _));refine blk_put (cs := #[.int .i64 t413,.int .i64 t414,.string (⟨#[]⟩ : ByteArray),.slice none 0 0]) ?_ 2 _ rfl;(with_reducible repeat (first | refine blk_drewN ?_ _ | refine blk_drew ?_ | refine blk_alloc ?_ _));refine blk_put (cs := #[.int .i64 t413,.int .i64 0,.string (⟨#[]⟩ : ByteArray),.slice none 0 0]) ?_ 1 _ rfl;(with_reducible repeat (first | refine blk_drewN ?_ _ | refine blk_drew ?_ | refine blk_alloc ?_ _));refine blk_put (cs := #[.int .i64 0,.int .i64 0,.string (⟨#[]⟩ : ByteArray),.slice none 0 0]) ?_ 0 _ rfl;(with_reducible repeat (first | refine blk_drewN ?_ _ | refine blk_drew ?_ | refine blk_alloc ?_ _));exact BK421.out) hb);have n3_ := Aside0.mk (below_step (by repeat (first | (with_reducible first | exact HB.out | apply below_alloc | apply pw_below_drewN | apply below_drew1 | refine below_set ?_ GE412.out | refine below_set ?_ GE421.out) | exact HB.out)) hb);clear HO418;clear BK412;clear BK421;clear HB;have HO418 := n0_;have BK412 := n1_;have BK421 := n2_;have HB := n3_;clear n0_ n1_ n2_ n3_;(try clear hb);(try clear hb2);(try clear hk);(try clear hi);have hcz14_0 : w13.cell? ⟨gb421,0,none⟩ = some (.int .i64 t413) := (blk_cell BK421.out 0).trans rfl;have hcz14_1 : w13.cell? ⟨gb421,1,none⟩ = some (.int .i64 t414) := (blk_cell BK421.out 1).trans rfl;have hcz14_2 : w13.cell? ⟨gb421,2,none⟩ = some (.string t415) := (blk_cell BK421.out 2).trans rfl;have hcz14_3 : w13.cell? ⟨gb421,3,none⟩ = some (.slice Ao12 t416.length co12) := (blk_cell BK421.out 3).trans rfl;have hfz14_0 := blk_frozen BK421.out 0;have hfz14_1 := blk_frozen BK421.out 1;have hfz14_2 := blk_frozen BK421.out 2;have hfz14_3 := blk_frozen BK421.out 3;have hcz15_0 : w13.cell? ⟨gb412,0,none⟩ = some (.int .i64 0) := (blk_cell BK412.out 0).trans rfl;have hcz15_1 : w13.cell? ⟨gb412,1,none⟩ = some (.int .i64 0) := (blk_cell BK412.out 1).trans rfl;have hcz15_2 : w13.cell? ⟨gb412,2,none⟩ = some (.string (⟨#[]⟩ : ByteArray)) := (blk_cell BK412.out 2).trans rfl;have hcz15_3 : w13.cell? ⟨gb412,3,none⟩ = some (.slice none 0 0) := (blk_cell BK412.out 3).trans rfl;have hfz15_0 := blk_frozen BK412.out 0;have hfz15_1 := blk_frozen BK412.out 1;have hfz15_2 := blk_frozen BK412.out 2;have hfz15_3 := blk_frozen BK412.out 3))
    refine bodyPost_ret (results_ct rfl _ _ gb412 27 #[.int .i64 t413,.int .i64 t414,.string t415,.slice Ao12 t416.length co12] (0,0) _ rfl (by (with_reducible repeat (first | refine blk_drewN ?_ _ | refine blk_drew ?_ | refine blk_alloc ?_ _));refine blk_put (cs := #[.int .i64 t413,.int .i64 t414,.string t415,.slice none 0 0]) ?_ 3 _ rfl;(with_reducible repeat (first | refine blk_drewN ?_ _ | refine blk_drew ?_ | refine blk_alloc ?_ _));refine blk_put (cs := #[.int .i64 t413,.int .i64 t414,.string (⟨#[]⟩ : ByteArray),.slice none 0 0]) ?_ 2 _ rfl;(with_reducible repeat (first | refine blk_drewN ?_ _ | refine blk_drew ?_ | refine blk_alloc ?_ _));refine blk_put (cs := #[.int .i64 t413,.int .i64 0,.string (⟨#[]⟩ : ByteArray),.slice none 0 0]) ?_ 1 _ rfl;(with_reducible repeat (first | refine blk_drewN ?_ _ | refine blk_drew ?_ | refine blk_alloc ?_ _));refine blk_put (cs := #[.int .i64 0,.int .i64 0,.string (⟨#[]⟩ : ByteArray),.slice none 0 0]) ?_ 0 _ rfl;(with_reducible repeat (first | refine blk_drewN ?_ _ | refine blk_drew ?_ | refine blk_alloc ?_ _));exact BK412.out) Try.underlying27 rfl (by kernel_rfl)) rfl ?_
    exact ⟨_,by first | rfl | (simp [*,errW_none,errW_some] <;> rfl),by (with_reducible repeat (first | apply Kd.R_alloc | apply Kd.R_drewN | apply Kd.R_drew));exact Kd.R_mono (Kd.R_far (p := ⟨gb412,3,none⟩) (Kd.R_far (p := ⟨gb412,2,none⟩) (Kd.R_far (p := ⟨gb412,1,none⟩) (Kd.R_far (p := ⟨gb412,0,none⟩) (Kd.R_mono HO418.out (fun k_ hk => (⟨hk,hk.1.2⟩ : _ ∧ k_ ≠ gb412))) (fun _ hk => hk.2) (.int .i64 t413)) (fun _ hk => hk.2) (.int .i64 t414)) (fun _ hk => hk.2) (.string t415)) (fun _ hk => hk.2) (.slice Ao12 t416.length co12)) (fun _ hk => trivial),by repeat (first | (with_reducible first | exact HB.out | apply below_alloc | apply pw_below_drewN | apply below_drew1 | refine below_set ?_ GE412.out | refine below_set ?_ GE421.out) | exact HB.out)⟩
   ·replace c6 := Bool.eq_false_iff.mpr c6
    subst c6
    have H1 : (some (0,0,(⟨#[]⟩ : ByteArray),([] : List (S27)),false)) = some (r1,r2,r3,r4,r5) := by rw [if_neg (show ¬ (false = true) by decide)] at H;exact H
    clear H
    have H := H1
    clear H1
    simp only [Option.some.injEq,Prod.mk.injEq] at H
    obtain ⟨rfl,rfl,rfl,rfl,rfl⟩ := H
    go_enter Try.func7,Try.ntmps7
    go_wp2_with (first | ((with_reducible refine gate_dst (N := 2) rfl ?_);(try (refine gate_guard (by rfl) ?_;dsimp only));refine box_event ?hg (N := 2) ?hd (cs := #[.int .i64 0,.int .i64 0,.string (⟨#[]⟩ : ByteArray),.slice none 0 0]) (t := 27) ?hr ?_;(case hd => rfl);(case hg => rfl);(case hr => first | (go_simp;done) | (go_simp;rfl));intro gb412 hg w16 hbox hb;have n0_ := Aside0.mk (below_step (by repeat (first | (with_reducible first | exact HB.out | apply below_alloc | apply pw_below_drewN | apply below_drew1) | exact HB.out)) hb);have n1_ := Aside0.mk (hbox);have n2_ := Aside0.mk ((by rw [hg];exact (below_size (by repeat (first | (with_reducible first | exact HB.out | apply below_alloc | apply pw_below_drewN | apply below_drew1) | exact HB.out))) : w.heap.size ≤ gb412));have n3_ := Aside0.mk ((by rw [hg];exact (below_size (by repeat (first | (with_reducible first | exact HB.out | apply below_alloc | apply pw_below_drewN | apply below_drew1) | exact HB.out))) : w.heap.size ≤ gb412));clear HB;have HB := n0_;have BK412 := n1_;have GW412 := n2_;have GE412 := n3_;clear n0_ n1_ n2_ n3_;clear hb hbox hg) | ((with_reducible refine gate_callee (f := 20) rfl ?_);refine goesL_ (some 9) rfl rfl Try.func20 (by kernel_rfl) rfl #[.slice A0 l0.length c0,.int .i64 0,.int .i64 8] rfl (by (try simp only [List.map_toArray,List.map_cons,List.map_nil]);first | done | rfl | (simp only [List.length_drop,List.length_take];rfl)) ?_;(with_reducible refine (spec_l2Get.calls k _ _ l0 0 8 t413 t414 t415 t416 t419 true _ ?side1 ?side2 A2.out).mono ?_);(case side1 => repeat (first | exact (Kd.C_below HR0.out HB.out) | (with_reducible refine Kd.C_alloc ?_ _) | (with_reducible refine Kd.C_drewN ?_ _) | (with_reducible refine Kd.C_drew ?_)));(case side2 => exact HC0.out);rintro e w17 ⟨v417,rfl,ho0,hb⟩;refine ⟨_,rfl,?_⟩;have n0_ := Aside0.mk (Kd.R_lower (Kd.R_newB ho0 (g := gb412) (o := .cells #[.int .i64 0,.int .i64 0,.string (⟨#[]⟩ : ByteArray),.slice none 0 0] 27 (0,0)) (by (with_reducible repeat (first | refine blk_drewN ?_ _ | refine blk_drew ?_ | refine blk_alloc ?_ _));exact BK412.out)) (below_size (by repeat (first | (with_reducible first | exact HB.out | apply below_alloc | apply pw_below_drewN | apply below_drew1 | refine below_set ?_ GE412.out) | exact HB.out))));have n1_ := Aside0.mk (blk_below (g := gb412) (o := .cells #[.int .i64 0,.int .i64 0,.string (⟨#[]⟩ : ByteArray),.slice none 0 0] 27 (0,0)) (by (with_reducible repeat (first | refine blk_drewN ?_ _ | refine blk_drew ?_ | refine blk_alloc ?_ _));exact BK412.out) hb);have n2_ := Aside0.mk (below_step (by repeat (first | (with_reducible first | exact HB.out | apply below_alloc | apply pw_below_drewN | apply below_drew1 | refine below_set ?_ GE412.out) | exact HB.out)) hb);clear BK412;clear HB;have HO418 := n0_;have BK412 := n1_;have HB := n2_;clear n0_ n1_ n2_;(try clear hb);(try clear hb2);(try clear hk);(try clear hi);(try clear ho0)) | ((with_reducible refine gate_dst (N := 4) rfl ?_);(try (refine gate_guard (by rfl) ?_;dsimp only));refine box_event ?hg (N := 4) ?hd (cs := #[.int .i64 0,.int .i64 0,.string (⟨#[]⟩ : ByteArray),.slice none 0 0]) (t := 27) ?hr ?_;(case hd => rfl);(case hg => rfl);(case hr => first | (go_simp;done) | (go_simp;rfl));intro gb421 hg w18 hbox hb;have n0_ := Aside0.mk (Kd.R_below (Kd.R_elderB (by (with_reducible repeat (first | apply Kd.R_alloc | apply Kd.R_drewN | apply Kd.R_drew));exact HO418.out) gb421 (Nat.le_of_eq hg.symm)) hb);have n1_ := Aside0.mk (blk_below (g := gb412) (o := .cells #[.int .i64 0,.int .i64 0,.string (⟨#[]⟩ : ByteArray),.slice none 0 0] 27 (0,0)) (by (with_reducible repeat (first | refine blk_drewN ?_ _ | refine blk_drew ?_ | refine blk_alloc ?_ _));exact BK412.out) hb);have n2_ := Aside0.mk (below_step (by repeat (first | (with_reducible first | exact HB.out | apply below_alloc | apply pw_below_drewN | apply below_drew1 | refine below_set ?_ GE412.out) | exact HB.out)) hb);have n3_ := Aside0.mk (hbox);have n4_ := Aside0.mk ((by rw [hg];exact (below_size (by repeat (first | (with_reducible first | exact HB.out | apply below_alloc | apply pw_below_drewN | apply below_drew1 | refine below_set ?_ GE412.out) | exact HB.out))) : w.heap.size ≤ gb421));have n5_ := Aside0.mk ((by rw [hg];exact (below_size (by repeat (first | (with_reducible first | exact HB.out | apply below_alloc | apply pw_below_drewN | apply below_drew1 | refine below_set ?_ GE412.out) | exact HB.out))) : w.heap.size ≤ gb421));have n6_ := Aside0.mk ((by rw [hg];exact Nat.ne_of_lt (blk_lt (g := gb412) (o := .cells #[.int .i64 0,.int .i64 0,.string (⟨#[]⟩ : ByteArray),.slice none 0 0] 27 (0,0)) (by (with_reducible repeat (first | refine blk_drewN ?_ _ | refine blk_drew ?_ | refine blk_alloc ?_ _));exact BK412.out)) : gb412 ≠ gb421));have n7_ := Aside0.mk ((by rw [hg];exact Nat.ne_of_gt (blk_lt (g := gb412) (o := .cells #[.int .i64 0,.int .i64 0,.string (⟨#[]⟩ : ByteArray),.slice none 0 0] 27 (0,0)) (by (with_reducible repeat (first | refine blk_drewN ?_ _ | refine blk_drew ?_ | refine blk_alloc ?_ _));exact BK412.out)) : gb421 ≠ gb412));clear HO418;clear BK412;clear HB;have HO418 := n0_;have BK412 := n1_;have HB := n2_;have BK421 := n3_;have GW421 := n4_;have GE421 := n5_;have NB412_421 := n6_;have NB421_412 := n7_;clear n0_ n1_ n2_ n3_ n4_ n5_ n6_ n7_;clear hb hbox hg;have hnb19 := NB421_412.out;have hnc19 := NB412_421.out;have hcz20_0 : w18.cell? ⟨gb421,0,none⟩ = some (.int .i64 0) := (blk_cell BK421.out 0).trans rfl;have hcz20_1 : w18.cell? ⟨gb421,1,none⟩ = some (.int .i64 0) := (blk_cell BK421.out 1).trans rfl;have hcz20_2 : w18.cell? ⟨gb421,2,none⟩ = some (.string (⟨#[]⟩ : ByteArray)) := (blk_cell BK421.out 2).trans rfl;have hcz20_3 : w18.cell? ⟨gb421,3,none⟩ = some (.slice none 0 0) := (blk_cell BK421.out 3).trans rfl;have hfz20_0 := blk_frozen BK421.out 0;have hfz20_1 := blk_frozen BK421.out 1;have hfz20_2 := blk_frozen BK421.out 2;have hfz20_3 := blk_frozen BK421.out 3;obtain ⟨Ao21,co21,eo21⟩ := Kd.R_slice HO418.out;subst eo21) | (go_at_call 21;(with_reducible refine (spec_TermOk.calls k t413 t414 t415 _ _ t416 false _ ?side1 ?side2 A5.out).mono ?_);(case side1 => refine (Kd.R_reads' (e := 27) (base := w.heap.size) (ok := fun k_ => ((True ∧ k_ ≠ gb412) ∧ k_ ≠ gb421)) (n := t416.length) (c := co21) ?_).2.2;exact (by (with_reducible repeat (first | apply Kd.R_alloc | apply Kd.R_drewN | apply Kd.R_drew));exact (Kd.R_mono (Kd.R_far (p := ⟨gb421,3,none⟩) (Kd.R_far (p := ⟨gb421,2,none⟩) (Kd.R_far (p := ⟨gb421,1,none⟩) (Kd.R_far (p := ⟨gb421,0,none⟩) (Kd.R_mono HO418.out (fun k_ hk => (⟨hk,hk.2⟩ : _ ∧ k_ ≠ gb421))) (fun _ hk => hk.2) (.int .i64 t413)) (fun _ hk => hk.2) (.int .i64 t414)) (fun _ hk => hk.2) (.string t415)) (fun _ hk => hk.2) (.slice Ao21 t416.length co21)) (fun _ h_ => h_.1))));(case side2 => exact (Kd.R_reads' HO418.out).2.1);rintro e w22 ⟨rfl,hb⟩;have n0_ := Aside0.mk (Kd.R_below (by (with_reducible repeat (first | apply Kd.R_alloc | apply Kd.R_drewN | apply Kd.R_drew));exact (Kd.R_mono (Kd.R_far (p := ⟨gb421,3,none⟩) (Kd.R_far (p := ⟨gb421,2,none⟩) (Kd.R_far (p := ⟨gb421,1,none⟩) (Kd.R_far (p := ⟨gb421,0,none⟩) (Kd.R_mono HO418.out (fun k_ hk => (⟨hk,hk.2⟩ : _ ∧ k_ ≠ gb421))) (fun _ hk => hk.2) (.int .i64 t413)) (fun _ hk => hk.2) (.int .i64 t414)) (fun _ hk => hk.2) (.string t415)) (fun _ hk => hk.2) (.slice Ao21 t416.length co21)) (fun _ h_ => h_.1))) hb);have n1_ := Aside0.mk (blk_below (g := gb412) (o := .cells #[.int .i64 0,.int .i64 0,.string (⟨#[]⟩ : ByteArray),.slice none 0 0] 27 (0,0)) (by (with_reducible repeat (first | refine blk_drewN ?_ _ | refine blk_drew ?_ | refine blk_alloc ?_ _));refine blk_far ?_ NB412_421.out _;(with_reducible repeat (first | refine blk_drewN ?_ _ | refine blk_drew ?_ | refine blk_alloc ?_ _));refine blk_far ?_ NB412_421.out _;(with_reducible repeat (first | refine blk_drewN ?_ _ | refine blk_drew ?_ | refine blk_alloc ?_ _));refine blk_far ?_ NB412_421.out _;(with_reducible repeat (first | refine blk_drewN ?_ _ | refine blk_drew ?_ | refine blk_alloc ?_ _));refine blk_far ?_ NB412_421.out _;(with_reducible repeat (first | refine blk_drewN ?_ _ | refine blk_drew ?_ | refine blk_alloc ?_ _));exact BK412.out) hb);have n2_ := Aside0.mk (blk_below (g := gb421) (o := .cells #[.int .i64 t413,.int .i64 t414,.string t415,.slice Ao21 t416.length co21] 27 (0,0)) (by (with_reducible repeat (first | refine blk_drewN ?_ _ | refine blk_drew ?_ | refine blk_alloc ?_ _));refine blk_put (cs := #[.int .i64 t413,.int .i64 t414,.string t415,.slice none 0 0]) ?_ 3 _ rfl;(with_reducible repeat (first | refine blk_drewN ?_ _ | refine blk_drew ?_ | refine blk_alloc ?_ _));refine blk_put (cs := #[.int .i64 t413,.int .i64 t414,.string (⟨#[]⟩ : ByteArray),.slice none 0 0]) ?_ 2 _ rfl;(with_reducible repeat (first | refine blk_drewN ?_ _ | refine blk_drew ?_ | refine blk_alloc ?_ _));refine blk_put (cs := #[.int .i64 t413,.int .i64 0,.string (⟨#[]⟩ : ByteArray),.slice none 0 0]) ?_ 1 _ rfl;(with_reducible repeat (first | refine blk_drewN ?_ _ | refine blk_drew ?_ | refine blk_alloc ?_ _));refine blk_put (cs := #[.int .i64 0,.int .i64 0,.string (⟨#[]⟩ : ByteArray),.slice none 0 0]) ?_ 0 _ rfl;(with_reducible repeat (first | refine blk_drewN ?_ _ | refine blk_drew ?_ | refine blk_alloc ?_ _));exact BK421.out) hb);have n3_ := Aside0.mk (below_step (by repeat (first | (with_reducible first | exact HB.out | apply below_alloc | apply pw_below_drewN | apply below_drew1 | refine below_set ?_ GE412.out | refine below_set ?_ GE421.out) | exact HB.out)) hb);clear HO418;clear BK412;clear BK421;clear HB;have HO418 := n0_;have BK412 := n1_;have BK421 := n2_;have HB := n3_;clear n0_ n1_ n2_ n3_;(try clear hb);(try clear hb2);(try clear hk);(try clear hi);have hcz23_0 : w22.cell? ⟨gb412,0,none⟩ = some (.int .i64 0) := (blk_cell BK412.out 0).trans rfl;have hcz23_1 : w22.cell? ⟨gb412,1,none⟩ = some (.int .i64 0) := (blk_cell BK412.out 1).trans rfl;have hcz23_2 : w22.cell? ⟨gb412,2,none⟩ = some (.string (⟨#[]⟩ : ByteArray)) := (blk_cell BK412.out 2).trans rfl;have hcz23_3 : w22.cell? ⟨gb412,3,none⟩ = some (.slice none 0 0) := (blk_cell BK412.out 3).trans rfl;have hfz23_0 := blk_frozen BK412.out 0;have hfz23_1 := blk_frozen BK412.out 1;have hfz23_2 := blk_frozen BK412.out 2;have hfz23_3 := blk_frozen BK412.out 3))
    refine bodyPost_ret (results_ct rfl _ _ gb412 27 #[.int .i64 0,.int .i64 0,.string (⟨#[]⟩ : ByteArray),.slice none 0 0] (0,0) _ rfl (by (with_reducible repeat (first | refine blk_drewN ?_ _ | refine blk_drew ?_ | refine blk_alloc ?_ _));refine blk_put (cs := #[.int .i64 0,.int .i64 0,.string (⟨#[]⟩ : ByteArray),.slice none 0 0]) ?_ 3 _ rfl;(with_reducible repeat (first | refine blk_drewN ?_ _ | refine blk_drew ?_ | refine blk_alloc ?_ _));refine blk_put (cs := #[.int .i64 0,.int .i64 0,.string (⟨#[]⟩ : ByteArray),.slice none 0 0]) ?_ 2 _ rfl;(with_reducible repeat (first | refine blk_drewN ?_ _ | refine blk_drew ?_ | refine blk_alloc ?_ _));refine blk_put (cs := #[.int .i64 0,.int .i64 0,.string (⟨#[]⟩ : ByteArray),.slice none 0 0]) ?_ 1 _ rfl;(with_reducible repeat (first | refine blk_drewN ?_ _ | refine blk_drew ?_ | refine blk_alloc ?_ _));refine blk_put (cs := #[.int .i64 0,.int .i64 0,.string (⟨#[]⟩ : ByteArray),.slice none 0 0]) ?_ 0 _ rfl;(with_reducible repeat (first | refine blk_drewN ?_ _ | refine blk_drew ?_ | refine blk_alloc ?_ _));exact BK412.out) Try.underlying27 rfl (by kernel_rfl)) rfl ?_
    exact ⟨_,by first | rfl | (simp [*,errW_none,errW_some] <;> rfl),by first | exact Kd.R_nil _ _ _ _ _ | exact Kd.N_nil _ _ _ _ _ | exact Kd.V_nil _ _ _ _ _ | exact Kd.Q_nil _ _ _ _ _ | exact Kd.S_nil _ _ _ _ _,by repeat (first | (with_reducible first | exact HB.out | apply below_alloc | apply pw_below_drewN | apply below_drew1 | refine below_set ?_ GE412.out | refine below_set ?_ GE421.out) | exact HB.out)⟩
  ·rw [if_neg c4] at H
   have c4b0 : (t419 == (l0.length : Int)) = false := beq_eq_false_iff_ne.mpr c4
   have c4b1 : (t419 != (l0.length : Int)) = true := bne_iff_ne.mpr c4
   simp only [Option.some.injEq,Prod.mk.injEq] at H
   obtain ⟨rfl,rfl,rfl,rfl,rfl⟩ := H
   go_enter Try.func7,Try.ntmps7
   go_wp2_with (first | ((with_reducible refine gate_dst (N := 2) rfl ?_);(try (refine gate_guard (by rfl) ?_;dsimp only));refine box_event ?hg (N := 2) ?hd (cs := #[.int .i64 0,.int .i64 0,.string (⟨#[]⟩ : ByteArray),.slice none 0 0]) (t := 27) ?hr ?_;(case hd => rfl);(case hg => rfl);(case hr => first | (go_simp;done) | (go_simp;rfl));intro gb412 hg w24 hbox hb;have n0_ := Aside0.mk (below_step (by repeat (first | (with_reducible first | exact HB.out | apply below_alloc | apply pw_below_drewN | apply below_drew1) | exact HB.out)) hb);have n1_ := Aside0.mk (hbox);have n2_ := Aside0.mk ((by rw [hg];exact (below_size (by repeat (first | (with_reducible first | exact HB.out | apply below_alloc | apply pw_below_drewN | apply below_drew1) | exact HB.out))) : w.heap.size ≤ gb412));have n3_ := Aside0.mk ((by rw [hg];exact (below_size (by repeat (first | (with_reducible first | exact HB.out | apply below_alloc | apply pw_below_drewN | apply below_drew1) | exact HB.out))) : w.heap.size ≤ gb412));clear HB;have HB := n0_;have BK412 := n1_;have GW412 := n2_;have GE412 := n3_;clear n0_ n1_ n2_ n3_;clear hb hbox hg) | ((with_reducible refine gate_callee (f := 20) rfl ?_);refine goesL_ (some 9) rfl rfl Try.func20 (by kernel_rfl) rfl #[.slice A0 l0.length c0,.int .i64 0,.int .i64 8] rfl (by (try simp only [List.map_toArray,List.map_cons,List.map_nil]);first | done | rfl | (simp only [List.length_drop,List.length_take];rfl)) ?_;(with_reducible refine (spec_l2Get.calls k _ _ l0 0 8 t413 t414 t415 t416 t419 true _ ?side1 ?side2 A2.out).mono ?_);(case side1 => repeat (first | exact (Kd.C_below HR0.out HB.out) | (with_reducible refine Kd.C_alloc ?_ _) | (with_reducible refine Kd.C_drewN ?_ _) | (with_reducible refine Kd.C_drew ?_)));(case side2 => exact HC0.out);rintro e w25 ⟨v417,rfl,ho0,hb⟩;refine ⟨_,rfl,?_⟩;have n0_ := Aside0.mk (Kd.R_lower (Kd.R_newB ho0 (g := gb412) (o := .cells #[.int .i64 0,.int .i64 0,.string (⟨#[]⟩ : ByteArray),.slice none 0 0] 27 (0,0)) (by (with_reducible repeat (first | refine blk_drewN ?_ _ | refine blk_drew ?_ | refine blk_alloc ?_ _));exact BK412.out)) (below_size (by repeat (first | (with_reducible first | exact HB.out | apply below_alloc | apply pw_below_drewN | apply below_drew1 | refine below_set ?_ GE412.out) | exact HB.out))));have n1_ := Aside0.mk (blk_below (g := gb412) (o := .cells #[.int .i64 0,.int .i64 0,.string (⟨#[]⟩ : ByteArray),.slice none 0 0] 27 (0,0)) (by (with_reducible repeat (first | refine blk_drewN ?_ _ | refine blk_drew ?_ | refine blk_alloc ?_ _));exact BK412.out) hb);have n2_ := Aside0.mk (below_step (by repeat (first | (with_reducible first | exact HB.out | apply below_alloc | apply pw_below_drewN | apply below_drew1 | refine below_set ?_ GE412.out) | exact HB.out)) hb);clear BK412;clear HB;have HO418 := n0_;have BK412 := n1_;have HB := n2_;clear n0_ n1_ n2_;(try clear hb);(try clear hb2);(try clear hk);(try clear hi);(try clear ho0)) | ((with_reducible refine gate_dst (N := 4) rfl ?_);(try (refine gate_guard (by rfl) ?_;dsimp only));refine box_event ?hg (N := 4) ?hd (cs := #[.int .i64 0,.int .i64 0,.string (⟨#[]⟩ : ByteArray),.slice none 0 0]) (t := 27) ?hr ?_;(case hd => rfl);(case hg => rfl);(case hr => first | (go_simp;done) | (go_simp;rfl));intro gb421 hg w26 hbox hb;have n0_ := Aside0.mk (Kd.R_below (Kd.R_elderB (by (with_reducible repeat (first | apply Kd.R_alloc | apply Kd.R_drewN | apply Kd.R_drew));exact HO418.out) gb421 (Nat.le_of_eq hg.symm)) hb);have n1_ := Aside0.mk (blk_below (g := gb412) (o := .cells #[.int .i64 0,.int .i64 0,.string (⟨#[]⟩ : ByteArray),.slice none 0 0] 27 (0,0)) (by (with_reducible repeat (first | refine blk_drewN ?_ _ | refine blk_drew ?_ | refine blk_alloc ?_ _));exact BK412.out) hb);have n2_ := Aside0.mk (below_step (by repeat (first | (with_reducible first | exact HB.out | apply below_alloc | apply pw_below_drewN | apply below_drew1 | refine below_set ?_ GE412.out) | exact HB.out)) hb);have n3_ := Aside0.mk (hbox);have n4_ := Aside0.mk ((by rw [hg];exact (below_size (by repeat (first | (with_reducible first | exact HB.out | apply below_alloc | apply pw_below_drewN | apply below_drew1 | refine below_set ?_ GE412.out) | exact HB.out))) : w.heap.size ≤ gb421));have n5_ := Aside0.mk ((by rw [hg];exact (below_size (by repeat (first | (with_reducible first | exact HB.out | apply below_alloc | apply pw_below_drewN | apply below_drew1 | refine below_set ?_ GE412.out) | exact HB.out))) : w.heap.size ≤ gb421));have n6_ := Aside0.mk ((by rw [hg];exact Nat.ne_of_lt (blk_lt (g := gb412) (o := .cells #[.int .i64 0,.int .i64 0,.string (⟨#[]⟩ : ByteArray),.slice none 0 0] 27 (0,0)) (by (with_reducible repeat (first | refine blk_drewN ?_ _ | refine blk_drew ?_ | refine blk_alloc ?_ _));exact BK412.out)) : gb412 ≠ gb421));have n7_ := Aside0.mk ((by rw [hg];exact Nat.ne_of_gt (blk_lt (g := gb412) (o := .cells #[.int .i64 0,.int .i64 0,.string (⟨#[]⟩ : ByteArray),.slice none 0 0] 27 (0,0)) (by (with_reducible repeat (first | refine blk_drewN ?_ _ | refine blk_drew ?_ | refine blk_alloc ?_ _));exact BK412.out)) : gb421 ≠ gb412));clear HO418;clear BK412;clear HB;have HO418 := n0_;have BK412 := n1_;have HB := n2_;have BK421 := n3_;have GW421 := n4_;have GE421 := n5_;have NB412_421 := n6_;have NB421_412 := n7_;clear n0_ n1_ n2_ n3_ n4_ n5_ n6_ n7_;clear hb hbox hg;have hnb27 := NB421_412.out;have hnc27 := NB412_421.out;have hcz28_0 : w26.cell? ⟨gb421,0,none⟩ = some (.int .i64 0) := (blk_cell BK421.out 0).trans rfl;have hcz28_1 : w26.cell? ⟨gb421,1,none⟩ = some (.int .i64 0) := (blk_cell BK421.out 1).trans rfl;have hcz28_2 : w26.cell? ⟨gb421,2,none⟩ = some (.string (⟨#[]⟩ : ByteArray)) := (blk_cell BK421.out 2).trans rfl;have hcz28_3 : w26.cell? ⟨gb421,3,none⟩ = some (.slice none 0 0) := (blk_cell BK421.out 3).trans rfl;have hfz28_0 := blk_frozen BK421.out 0;have hfz28_1 := blk_frozen BK421.out 1;have hfz28_2 := blk_frozen BK421.out 2;have hfz28_3 := blk_frozen BK421.out 3;obtain ⟨Ao29,co29,eo29⟩ := Kd.R_slice HO418.out;subst eo29;have hcz30_0 : w26.cell? ⟨gb412,0,none⟩ = some (.int .i64 0) := (blk_cell BK412.out 0).trans rfl;have hcz30_1 : w26.cell? ⟨gb412,1,none⟩ = some (.int .i64 0) := (blk_cell BK412.out 1).trans rfl;have hcz30_2 : w26.cell? ⟨gb412,2,none⟩ = some (.string (⟨#[]⟩ : ByteArray)) := (blk_cell BK412.out 2).trans rfl;have hcz30_3 : w26.cell? ⟨gb412,3,none⟩ = some (.slice none 0 0) := (blk_cell BK412.out 3).trans rfl;have hfz30_0 := blk_frozen BK412.out 0;have hfz30_1 := blk_frozen BK412.out 1;have hfz30_2 := blk_frozen BK412.out 2;have hfz30_3 := blk_frozen BK412.out 3))
   refine bodyPost_ret (results_ct rfl _ _ gb412 27 #[.int .i64 0,.int .i64 0,.string (⟨#[]⟩ : ByteArray),.slice none 0 0] (0,0) _ rfl (by (with_reducible repeat (first | refine blk_drewN ?_ _ | refine blk_drew ?_ | refine blk_alloc ?_ _));refine blk_put (cs := #[.int .i64 0,.int .i64 0,.string (⟨#[]⟩ : ByteArray),.slice none 0 0]) ?_ 3 _ rfl;(with_reducible repeat (first | refine blk_drewN ?_ _ | refine blk_drew ?_ | refine blk_alloc ?_ _));refine blk_put (cs := #[.int .i64 0,.int .i64 0,.string (⟨#[]⟩ : ByteArray),.slice none 0 0]) ?_ 2 _ rfl;(with_reducible repeat (first | refine blk_drewN ?_ _ | refine blk_drew ?_ | refine blk_alloc ?_ _));refine blk_put (cs := #[.int .i64 0,.int .i64 0,.string (⟨#[]⟩ : ByteArray),.slice none 0 0]) ?_ 1 _ rfl;(with_reducible repeat (first | refine blk_drewN ?_ _ | refine blk_drew ?_ | refine blk_alloc ?_ _));refine blk_put (cs := #[.int .i64 0,.int .i64 0,.string (⟨#[]⟩ : ByteArray),.slice none 0 0]) ?_ 0 _ rfl;(with_reducible repeat (first | refine blk_drewN ?_ _ | refine blk_drew ?_ | refine blk_alloc ?_ _));refine blk_far ?_ NB412_421.out _;(with_reducible repeat (first | refine blk_drewN ?_ _ | refine blk_drew ?_ | refine blk_alloc ?_ _));refine blk_far ?_ NB412_421.out _;(with_reducible repeat (first | refine blk_drewN ?_ _ | refine blk_drew ?_ | refine blk_alloc ?_ _));refine blk_far ?_ NB412_421.out _;(with_reducible repeat (first | refine blk_drewN ?_ _ | refine blk_drew ?_ | refine blk_alloc ?_ _));refine blk_far ?_ NB412_421.out _;(with_reducible repeat (first | refine blk_drewN ?_ _ | refine blk_drew ?_ | refine blk_alloc ?_ _));exact BK412.out) Try.underlying27 rfl (by kernel_rfl)) rfl ?_
   exact ⟨_,by first | rfl | (simp [*,errW_none,errW_some] <;> rfl),by first | exact Kd.R_nil _ _ _ _ _ | exact Kd.N_nil _ _ _ _ _ | exact Kd.V_nil _ _ _ _ _ | exact Kd.Q_nil _ _ _ _ _ | exact Kd.S_nil _ _ _ _ _,by repeat (first | (with_reducible first | exact HB.out | apply below_alloc | apply pw_below_drewN | apply below_drew1 | refine below_set ?_ GE412.out | refine below_set ?_ GE421.out) | exact HB.out)⟩
 ·replace c3 := Bool.eq_false_iff.mpr c3
  subst c3
  have H1 : (some (0,0,(⟨#[]⟩ : ByteArray),([] : List (S27)),false)) = some (r1,r2,r3,r4,r5) := by rw [if_neg (show ¬ (false = true) by decide)] at H;exact H
  clear H
  have H := H1
  clear H1
  simp only [Option.some.injEq,Prod.mk.injEq] at H
  obtain ⟨rfl,rfl,rfl,rfl,rfl⟩ := H
  go_enter Try.func7,Try.ntmps7
  go_wp2_with (first | ((with_reducible refine gate_dst (N := 2) rfl ?_);(try (refine gate_guard (by rfl) ?_;dsimp only));refine box_event ?hg (N := 2) ?hd (cs := #[.int .i64 0,.int .i64 0,.string (⟨#[]⟩ : ByteArray),.slice none 0 0]) (t := 27) ?hr ?_;(case hd => rfl);(case hg => rfl);(case hr => first | (go_simp;done) | (go_simp;rfl));intro gb412 hg w31 hbox hb;have n0_ := Aside0.mk (below_step (by repeat (first | (with_reducible first | exact HB.out | apply below_alloc | apply pw_below_drewN | apply below_drew1) | exact HB.out)) hb);have n1_ := Aside0.mk (hbox);have n2_ := Aside0.mk ((by rw [hg];exact (below_size (by repeat (first | (with_reducible first | exact HB.out | apply below_alloc | apply pw_below_drewN | apply below_drew1) | exact HB.out))) : w.heap.size ≤ gb412));have n3_ := Aside0.mk ((by rw [hg];exact (below_size (by repeat (first | (with_reducible first | exact HB.out | apply below_alloc | apply pw_below_drewN | apply below_drew1) | exact HB.out))) : w.heap.size ≤ gb412));clear HB;have HB := n0_;have BK412 := n1_;have GW412 := n2_;have GE412 := n3_;clear n0_ n1_ n2_ n3_;clear hb hbox hg) | ((with_reducible refine gate_callee (f := 20) rfl ?_);refine goesL_ (some 9) rfl rfl Try.func20 (by kernel_rfl) rfl #[.slice A0 l0.length c0,.int .i64 0,.int .i64 8] rfl (by (try simp only [List.map_toArray,List.map_cons,List.map_nil]);first | done | rfl | (simp only [List.length_drop,List.length_take];rfl)) ?_;(with_reducible refine (spec_l2Get.calls k _ _ l0 0 8 t413 t414 t415 t416 t419 false _ ?side1 ?side2 A2.out).mono ?_);(case side1 => repeat (first | exact (Kd.C_below HR0.out HB.out) | (with_reducible refine Kd.C_alloc ?_ _) | (with_reducible refine Kd.C_drewN ?_ _) | (with_reducible refine Kd.C_drew ?_)));(case side2 => exact HC0.out);rintro e w32 ⟨v417,rfl,ho0,hb⟩;refine ⟨_,rfl,?_⟩;have n0_ := Aside0.mk (Kd.R_lower (Kd.R_newB ho0 (g := gb412) (o := .cells #[.int .i64 0,.int .i64 0,.string (⟨#[]⟩ : ByteArray),.slice none 0 0] 27 (0,0)) (by (with_reducible repeat (first | refine blk_drewN ?_ _ | refine blk_drew ?_ | refine blk_alloc ?_ _));exact BK412.out)) (below_size (by repeat (first | (with_reducible first | exact HB.out | apply below_alloc | apply pw_below_drewN | apply below_drew1 | refine below_set ?_ GE412.out) | exact HB.out))));have n1_ := Aside0.mk (blk_below (g := gb412) (o := .cells #[.int .i64 0,.int .i64 0,.string (⟨#[]⟩ : ByteArray),.slice none 0 0] 27 (0,0)) (by (with_reducible repeat (first | refine blk_drewN ?_ _ | refine blk_drew ?_ | refine blk_alloc ?_ _));exact BK412.out) hb);have n2_ := Aside0.mk (below_step (by repeat (first | (with_reducible first | exact HB.out | apply below_alloc | apply pw_below_drewN | apply below_drew1 | refine below_set ?_ GE412.out) | exact HB.out)) hb);clear BK412;clear HB;have HO418 := n0_;have BK412 := n1_;have HB := n2_;clear n0_ n1_ n2_;(try clear hb);(try clear hb2);(try clear hk);(try clear hi);(try clear ho0)) | ((with_reducible refine gate_dst (N := 4) rfl ?_);(try (refine gate_guard (by rfl) ?_;dsimp only));refine box_event ?hg (N := 4) ?hd (cs := #[.int .i64 0,.int .i64 0,.string (⟨#[]⟩ : ByteArray),.slice none 0 0]) (t := 27) ?hr ?_;(case hd => rfl);(case hg => rfl);(case hr => first | (go_simp;done) | (go_simp;rfl));intro gb421 hg w33 hbox hb;have n0_ := Aside0.mk (Kd.R_below (Kd.R_elderB (by (with_reducible repeat (first | apply Kd.R_alloc | apply Kd.R_drewN | apply Kd.R_drew));exact HO418.out) gb421 (Nat.le_of_eq hg.symm)) hb);have n1_ := Aside0.mk (blk_below (g := gb412) (o := .cells #[.int .i64 0,.int .i64 0,.string (⟨#[]⟩ : ByteArray),.slice none 0 0] 27 (0,0)) (by (with_reducible repeat (first | refine blk_drewN ?_ _ | refine blk_drew ?_ | refine blk_alloc ?_ _));exact BK412.out) hb);have n2_ := Aside0.mk (below_step (by repeat (first | (with_reducible first | exact HB.out | apply below_alloc | apply pw_below_drewN | apply below_drew1 | refine below_set ?_ GE412.out) | exact HB.out)) hb);have n3_ := Aside0.mk (hbox);have n4_ := Aside0.mk ((by rw [hg];exact (below_size (by repeat (first | (with_reducible first | exact HB.out | apply below_alloc | apply pw_below_drewN | apply below_drew1 | refine below_set ?_ GE412.out) | exact HB.out))) : w.heap.size ≤ gb421));have n5_ := Aside0.mk ((by rw [hg];exact (below_size (by repeat (first | (with_reducible first | exact HB.out | apply below_alloc | apply pw_below_drewN | apply below_drew1 | refine below_set ?_ GE412.out) | exact HB.out))) : w.heap.size ≤ gb421));have n6_ := Aside0.mk ((by rw [hg];exact Nat.ne_of_lt (blk_lt (g := gb412) (o := .cells #[.int .i64 0,.int .i64 0,.string (⟨#[]⟩ : ByteArray),.slice none 0 0] 27 (0,0)) (by (with_reducible repeat (first | refine blk_drewN ?_ _ | refine blk_drew ?_ | refine blk_alloc ?_ _));exact BK412.out)) : gb412 ≠ gb421));have n7_ := Aside0.mk ((by rw [hg];exact Nat.ne_of_gt (blk_lt (g := gb412) (o := .cells #[.int .i64 0,.int .i64 0,.string (⟨#[]⟩ : ByteArray),.slice none 0 0] 27 (0,0)) (by (with_reducible repeat (first | refine blk_drewN ?_ _ | refine blk_drew ?_ | refine blk_alloc ?_ _));exact BK412.out)) : gb421 ≠ gb412));clear HO418;clear BK412;clear HB;have HO418 := n0_;have BK412 := n1_;have HB := n2_;have BK421 := n3_;have GW421 := n4_;have GE421 := n5_;have NB412_421 := n6_;have NB421_412 := n7_;clear n0_ n1_ n2_ n3_ n4_ n5_ n6_ n7_;clear hb hbox hg;have hnb34 := NB421_412.out;have hnc34 := NB412_421.out;have hcz35_0 : w33.cell? ⟨gb421,0,none⟩ = some (.int .i64 0) := (blk_cell BK421.out 0).trans rfl;have hcz35_1 : w33.cell? ⟨gb421,1,none⟩ = some (.int .i64 0) := (blk_cell BK421.out 1).trans rfl;have hcz35_2 : w33.cell? ⟨gb421,2,none⟩ = some (.string (⟨#[]⟩ : ByteArray)) := (blk_cell BK421.out 2).trans rfl;have hcz35_3 : w33.cell? ⟨gb421,3,none⟩ = some (.slice none 0 0) := (blk_cell BK421.out 3).trans rfl;have hfz35_0 := blk_frozen BK421.out 0;have hfz35_1 := blk_frozen BK421.out 1;have hfz35_2 := blk_frozen BK421.out 2;have hfz35_3 := blk_frozen BK421.out 3;obtain ⟨Ao36,co36,eo36⟩ := Kd.R_slice HO418.out;subst eo36;have hcz37_0 : w33.cell? ⟨gb412,0,none⟩ = some (.int .i64 0) := (blk_cell BK412.out 0).trans rfl;have hcz37_1 : w33.cell? ⟨gb412,1,none⟩ = some (.int .i64 0) := (blk_cell BK412.out 1).trans rfl;have hcz37_2 : w33.cell? ⟨gb412,2,none⟩ = some (.string (⟨#[]⟩ : ByteArray)) := (blk_cell BK412.out 2).trans rfl;have hcz37_3 : w33.cell? ⟨gb412,3,none⟩ = some (.slice none 0 0) := (blk_cell BK412.out 3).trans rfl;have hfz37_0 := blk_frozen BK412.out 0;have hfz37_1 := blk_frozen BK412.out 1;have hfz37_2 := blk_frozen BK412.out 2;have hfz37_3 := blk_frozen BK412.out 3))
  refine bodyPost_ret (results_ct rfl _ _ gb412 27 #[.int .i64 0,.int .i64 0,.string (⟨#[]⟩ : ByteArray),.slice none 0 0] (0,0) _ rfl (by (with_reducible repeat (first | refine blk_drewN ?_ _ | refine blk_drew ?_ | refine blk_alloc ?_ _));refine blk_put (cs := #[.int .i64 0,.int .i64 0,.string (⟨#[]⟩ : ByteArray),.slice none 0 0]) ?_ 3 _ rfl;(with_reducible repeat (first | refine blk_drewN ?_ _ | refine blk_drew ?_ | refine blk_alloc ?_ _));refine blk_put (cs := #[.int .i64 0,.int .i64 0,.string (⟨#[]⟩ : ByteArray),.slice none 0 0]) ?_ 2 _ rfl;(with_reducible repeat (first | refine blk_drewN ?_ _ | refine blk_drew ?_ | refine blk_alloc ?_ _));refine blk_put (cs := #[.int .i64 0,.int .i64 0,.string (⟨#[]⟩ : ByteArray),.slice none 0 0]) ?_ 1 _ rfl;(with_reducible repeat (first | refine blk_drewN ?_ _ | refine blk_drew ?_ | refine blk_alloc ?_ _));refine blk_put (cs := #[.int .i64 0,.int .i64 0,.string (⟨#[]⟩ : ByteArray),.slice none 0 0]) ?_ 0 _ rfl;(with_reducible repeat (first | refine blk_drewN ?_ _ | refine blk_drew ?_ | refine blk_alloc ?_ _));refine blk_far ?_ NB412_421.out _;(with_reducible repeat (first | refine blk_drewN ?_ _ | refine blk_drew ?_ | refine blk_alloc ?_ _));refine blk_far ?_ NB412_421.out _;(with_reducible repeat (first | refine blk_drewN ?_ _ | refine blk_drew ?_ | refine blk_alloc ?_ _));refine blk_far ?_ NB412_421.out _;(with_reducible repeat (first | refine blk_drewN ?_ _ | refine blk_drew ?_ | refine blk_alloc ?_ _));refine blk_far ?_ NB412_421.out _;(with_reducible repeat (first | refine blk_drewN ?_ _ | refine blk_drew ?_ | refine blk_alloc ?_ _));exact BK412.out) Try.underlying27 rfl (by kernel_rfl)) rfl ?_
  exact ⟨_,by first | rfl | (simp [*,errW_none,errW_some] <;> rfl),by first | exact Kd.R_nil _ _ _ _ _ | exact Kd.N_nil _ _ _ _ _ | exact Kd.V_nil _ _ _ _ _ | exact Kd.Q_nil _ _ _ _ _ | exact Kd.S_nil _ _ _ _ _,by repeat (first | (with_reducible first | exact HB.out | apply below_alloc | apply pw_below_drewN | apply below_drew1 | refine below_set ?_ GE412.out | refine below_set ?_ GE421.out) | exact HB.out)⟩

/-! ### laws_zero: function 8 -/
def laws_zero.f (a0_0 : Int) (a0_1 : Int) (a0_2 : ByteArray) (l0_3 : List (S27)) : Option (Bool) := if a0_0 = 0 then (if a0_1 = 0 then (if a0_2.toList = ([] : List UInt8) then (some ((l0_3.length : Int) == 0)) else (some false)) else (some false)) else (some false)
set_option maxHeartbeats 8000000 in
set_option maxRecDepth 100000 in
theorem laws_zero.calls (a0_0 : Int) (a0_1 : Int) (a0_2 : ByteArray) (A0_3 : Option Addr) (c0_3 : Nat) (l0_3 : List (S27)) (r : Bool) (w : World) (hr0_3 : Kd.C k27 w A0_3 l0_3.length l0_3) (hc0_3 : l0_3.length ≤ c0_3) (h : laws_zero.f a0_0 a0_1 a0_2 l0_3 = some r) :
  Calls Try.prog 8 #[.agg #[.int .i64 a0_0,.int .i64 a0_1,.string a0_2,.slice A0_3 l0_3.length c0_3]] w fun e w' => e = .returned (.bool r) ∧ Below w.heap.size w w' := by
 have hu27 := Try.underlying27
 have HR0_3 := Aside0.mk hr0_3
 have HC0_3 := Aside0.mk hc0_3
 clear hr0_3 hc0_3
 have HB := Aside0.mk (Below.refl w.heap.size w)
 have H : (if a0_0 = 0 then (if a0_1 = 0 then (if a0_2.toList = ([] : List UInt8) then (some ((l0_3.length : Int) == 0)) else (some false)) else (some false)) else (some false)) = some r := h
 clear h
 by_cases c2 : a0_0 = 0
 ·rw [if_pos c2] at H
  have c2b0 : (a0_0 == 0) = true := beq_iff_eq.mpr c2
  have c2b1 : (a0_0 != 0) = false := bne_eq_false_iff_eq.mpr c2
  clear c2
  by_cases c3 : a0_1 = 0
  ·rw [if_pos c3] at H
   have c3b0 : (a0_1 == 0) = true := beq_iff_eq.mpr c3
   have c3b1 : (a0_1 != 0) = false := bne_eq_false_iff_eq.mpr c3
   clear c3
   by_cases c4 : a0_2.toList = ([] : List UInt8)
   ·rw [if_pos c4] at H
    have c4b0 : (a0_2.toList == ([] : List UInt8)) = true := beq_iff_eq.mpr c4
    have c4b1 : (a0_2.toList != ([] : List UInt8)) = false := bne_eq_false_iff_eq.mpr c4
    clear c4
    obtain rfl := Option.some.inj H
    go_enter Try.func8,Try.ntmps8
    go_wp2_with (first | ((with_reducible refine gate_dst (N := 1) rfl ?_);(try (refine gate_guard (by rfl) ?_;dsimp only));refine box_event ?hg (N := 1) ?hd (cs := #[.int .i64 a0_0,.int .i64 a0_1,.string a0_2,.slice A0_3 l0_3.length c0_3]) (t := 27) ?hr ?_;(case hd => rfl);(case hg => rfl);(case hr => first | (go_simp;done) | (go_simp;rfl));intro gb423 hg w5 hbox hb;have n0_ := Aside0.mk (below_step (by repeat (first | (with_reducible first | exact HB.out | apply below_alloc | apply pw_below_drewN | apply below_drew1) | exact HB.out)) hb);have n1_ := Aside0.mk (hbox);have n2_ := Aside0.mk ((by rw [hg];exact (below_size (by repeat (first | (with_reducible first | exact HB.out | apply below_alloc | apply pw_below_drewN | apply below_drew1) | exact HB.out))) : w.heap.size ≤ gb423));have n3_ := Aside0.mk ((by rw [hg];exact (below_size (by repeat (first | (with_reducible first | exact HB.out | apply below_alloc | apply pw_below_drewN | apply below_drew1) | exact HB.out))) : w.heap.size ≤ gb423));clear HB;have HB := n0_;have BK423 := n1_;have GW423 := n2_;have GE423 := n3_;clear n0_ n1_ n2_ n3_;clear hb hbox hg;have hcz6_0 : w5.cell? ⟨gb423,0,none⟩ = some (.int .i64 a0_0) := (blk_cell BK423.out 0).trans rfl;have hcz6_1 : w5.cell? ⟨gb423,1,none⟩ = some (.int .i64 a0_1) := (blk_cell BK423.out 1).trans rfl;have hcz6_2 : w5.cell? ⟨gb423,2,none⟩ = some (.string a0_2) := (blk_cell BK423.out 2).trans rfl;have hcz6_3 : w5.cell? ⟨gb423,3,none⟩ = some (.slice A0_3 l0_3.length c0_3) := (blk_cell BK423.out 3).trans rfl;have hfz6_0 := blk_frozen BK423.out 0;have hfz6_1 := blk_frozen BK423.out 1;have hfz6_2 := blk_frozen BK423.out 2;have hfz6_3 := blk_frozen BK423.out 3))
    go_ret
    exact ⟨by first | rfl | (simp [*,errW_none,errW_some] <;> rfl),by repeat (first | (with_reducible first | exact HB.out | apply below_alloc | apply pw_below_drewN | apply below_drew1 | refine below_set ?_ GE423.out) | exact HB.out)⟩
   ·rw [if_neg c4] at H
    have c4b0 : (a0_2.toList == ([] : List UInt8)) = false := beq_eq_false_iff_ne.mpr c4
    have c4b1 : (a0_2.toList != ([] : List UInt8)) = true := bne_iff_ne.mpr c4
    obtain rfl := Option.some.inj H
    go_enter Try.func8,Try.ntmps8
    go_wp2_with (first | ((with_reducible refine gate_dst (N := 1) rfl ?_);(try (refine gate_guard (by rfl) ?_;dsimp only));refine box_event ?hg (N := 1) ?hd (cs := #[.int .i64 a0_0,.int .i64 a0_1,.string a0_2,.slice A0_3 l0_3.length c0_3]) (t := 27) ?hr ?_;(case hd => rfl);(case hg => rfl);(case hr => first | (go_simp;done) | (go_simp;rfl));intro gb423 hg w7 hbox hb;have n0_ := Aside0.mk (below_step (by repeat (first | (with_reducible first | exact HB.out | apply below_alloc | apply pw_below_drewN | apply below_drew1) | exact HB.out)) hb);have n1_ := Aside0.mk (hbox);have n2_ := Aside0.mk ((by rw [hg];exact (below_size (by repeat (first | (with_reducible first | exact HB.out | apply below_alloc | apply pw_below_drewN | apply below_drew1) | exact HB.out))) : w.heap.size ≤ gb423));have n3_ := Aside0.mk ((by rw [hg];exact (below_size (by repeat (first | (with_reducible first | exact HB.out | apply below_alloc | apply pw_below_drewN | apply below_drew1) | exact HB.out))) : w.heap.size ≤ gb423));clear HB;have HB := n0_;have BK423 := n1_;have GW423 := n2_;have GE423 := n3_;clear n0_ n1_ n2_ n3_;clear hb hbox hg;have hcz8_0 : w7.cell? ⟨gb423,0,none⟩ = some (.int .i64 a0_0) := (blk_cell BK423.out 0).trans rfl;have hcz8_1 : w7.cell? ⟨gb423,1,none⟩ = some (.int .i64 a0_1) := (blk_cell BK423.out 1).trans rfl;have hcz8_2 : w7.cell? ⟨gb423,2,none⟩ = some (.string a0_2) := (blk_cell BK423.out 2).trans rfl;have hcz8_3 : w7.cell? ⟨gb423,3,none⟩ = some (.slice A0_3 l0_3.length c0_3) := (blk_cell BK423.out 3).trans rfl;have hfz8_0 := blk_frozen BK423.out 0;have hfz8_1 := blk_frozen BK423.out 1;have hfz8_2 := blk_frozen BK423.out 2;have hfz8_3 := blk_frozen BK423.out 3))
    go_ret
    exact ⟨by first | rfl | (simp [*,errW_none,errW_some] <;> rfl),by repeat (first | (with_reducible first | exact HB.out | apply below_alloc | apply pw_below_drewN | apply below_drew1 | refine below_set ?_ GE423.out) | exact HB.out)⟩
  ·rw [if_neg c3] at H
   have c3b0 : (a0_1 == 0) = false := beq_eq_false_iff_ne.mpr c3
   have c3b1 : (a0_1 != 0) = true := bne_iff_ne.mpr c3
   obtain rfl := Option.some.inj H
   go_enter Try.func8,Try.ntmps8
   go_wp2_with (first | ((with_reducible refine gate_dst (N := 1) rfl ?_);(try (refine gate_guard (by rfl) ?_;dsimp only));refine box_event ?hg (N := 1) ?hd (cs := #[.int .i64 a0_0,.int .i64 a0_1,.string a0_2,.slice A0_3 l0_3.length c0_3]) (t := 27) ?hr ?_;(case hd => rfl);(case hg => rfl);(case hr => first | (go_simp;done) | (go_simp;rfl));intro gb423 hg w9 hbox hb;have n0_ := Aside0.mk (below_step (by repeat (first | (with_reducible first | exact HB.out | apply below_alloc | apply pw_below_drewN | apply below_drew1) | exact HB.out)) hb);have n1_ := Aside0.mk (hbox);have n2_ := Aside0.mk ((by rw [hg];exact (below_size (by repeat (first | (with_reducible first | exact HB.out | apply below_alloc | apply pw_below_drewN | apply below_drew1) | exact HB.out))) : w.heap.size ≤ gb423));have n3_ := Aside0.mk ((by rw [hg];exact (below_size (by repeat (first | (with_reducible first | exact HB.out | apply below_alloc | apply pw_below_drewN | apply below_drew1) | exact HB.out))) : w.heap.size ≤ gb423));clear HB;have HB := n0_;have BK423 := n1_;have GW423 := n2_;have GE423 := n3_;clear n0_ n1_ n2_ n3_;clear hb hbox hg;have hcz10_0 : w9.cell? ⟨gb423,0,none⟩ = some (.int .i64 a0_0) := (blk_cell BK423.out 0).trans rfl;have hcz10_1 : w9.cell? ⟨gb423,1,none⟩ = some (.int .i64 a0_1) := (blk_cell BK423.out 1).trans rfl;have hcz10_2 : w9.cell? ⟨gb423,2,none⟩ = some (.string a0_2) := (blk_cell BK423.out 2).trans rfl;have hcz10_3 : w9.cell? ⟨gb423,3,none⟩ = some (.slice A0_3 l0_3.length c0_3) := (blk_cell BK423.out 3).trans rfl;have hfz10_0 := blk_frozen BK423.out 0;have hfz10_1 := blk_frozen BK423.out 1;have hfz10_2 := blk_frozen BK423.out 2;have hfz10_3 := blk_frozen BK423.out 3))
   go_ret
   exact ⟨by first | rfl | (simp [*,errW_none,errW_some] <;> rfl),by repeat (first | (with_reducible first | exact HB.out | apply below_alloc | apply pw_below_drewN | apply below_drew1 | refine below_set ?_ GE423.out) | exact HB.out)⟩
 ·rw [if_neg c2] at H
  have c2b0 : (a0_0 == 0) = false := beq_eq_false_iff_ne.mpr c2
  have c2b1 : (a0_0 != 0) = true := bne_iff_ne.mpr c2
  obtain rfl := Option.some.inj H
  go_enter Try.func8,Try.ntmps8
  go_wp2_with (first | ((with_reducible refine gate_dst (N := 1) rfl ?_);(try (refine gate_guard (by rfl) ?_;dsimp only));refine box_event ?hg (N := 1) ?hd (cs := #[.int .i64 a0_0,.int .i64 a0_1,.string a0_2,.slice A0_3 l0_3.length c0_3]) (t := 27) ?hr ?_;(case hd => rfl);(case hg => rfl);(case hr => first | (go_simp;done) | (go_simp;rfl));intro gb423 hg w11 hbox hb;have n0_ := Aside0.mk (below_step (by repeat (first | (with_reducible first | exact HB.out | apply below_alloc | apply pw_below_drewN | apply below_drew1) | exact HB.out)) hb);have n1_ := Aside0.mk (hbox);have n2_ := Aside0.mk ((by rw [hg];exact (below_size (by repeat (first | (with_reducible first | exact HB.out | apply below_alloc | apply pw_below_drewN | apply below_drew1) | exact HB.out))) : w.heap.size ≤ gb423));have n3_ := Aside0.mk ((by rw [hg];exact (below_size (by repeat (first | (with_reducible first | exact HB.out | apply below_alloc | apply pw_below_drewN | apply below_drew1) | exact HB.out))) : w.heap.size ≤ gb423));clear HB;have HB := n0_;have BK423 := n1_;have GW423 := n2_;have GE423 := n3_;clear n0_ n1_ n2_ n3_;clear hb hbox hg;have hcz12_0 : w11.cell? ⟨gb423,0,none⟩ = some (.int .i64 a0_0) := (blk_cell BK423.out 0).trans rfl;have hcz12_1 : w11.cell? ⟨gb423,1,none⟩ = some (.int .i64 a0_1) := (blk_cell BK423.out 1).trans rfl;have hcz12_2 : w11.cell? ⟨gb423,2,none⟩ = some (.string a0_2) := (blk_cell BK423.out 2).trans rfl;have hcz12_3 : w11.cell? ⟨gb423,3,none⟩ = some (.slice A0_3 l0_3.length c0_3) := (blk_cell BK423.out 3).trans rfl;have hfz12_0 := blk_frozen BK423.out 0;have hfz12_1 := blk_frozen BK423.out 1;have hfz12_2 := blk_frozen BK423.out 2;have hfz12_3 := blk_frozen BK423.out 3))
  go_ret
  exact ⟨by first | rfl | (simp [*,errW_none,errW_some] <;> rfl),by repeat (first | (with_reducible first | exact HB.out | apply below_alloc | apply pw_below_drewN | apply below_drew1 | refine below_set ?_ GE423.out) | exact HB.out)⟩

end Go.Proofs.Ytohafgndnpjfbaa.QFnReadTerms
