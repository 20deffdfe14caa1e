-- Written by a program of this workplace (print2.py) for this claim, over the print's words.
import Derived.Test.YtohafgndnpjfbaaQFnReadTermsx0
import Derived.Test.YtohafgndnpjfbaaQFnReadTermsx6
namespace Go.Proofs.Ytohafgndnpjfbaa.QFnReadTerms
open Go.RowKit Go.Proofs.YtohafgndnpjfbaaW.PrintWords Go.Proofs.YtohafgndnpjfbaaW.PrintLast Go.Proofs.YtohafgndnpjfbaaW.PrintMore
attribute [local go_sem] max2_int min2_int max_two min_two max_three min_three max_four min_four   -- for this text's walks alone
set_option linter.unusedVariables false
set_option linter.unusedSimpArgs false

/-! ### impl_getter_term: function 17 -/
mutual
def impl_getter_term.j0 : Nat → Int → Int → Bool → List Int → Int → Bool → Int → Int → ByteArray → Option (Int × Int × ByteArray × (List (S27)) × Int × Bool)
 | 0,_,_,_,_,_,_,_,_,_ => none
 | k + 1,x1,x11,x12,x1000,x1001,x1002,x306000,x306001,x306002 => if x12 = true then ((impl_getter_num.f k x1000 x1001 x1002).bind fun bt306 => (some (x306000,bt306.1,x306002,([] : List (S27)),bt306.2.1,bt306.2.2))) else (if x11 = 2 then ((impl_getter_text.f k x1000 x1001 x1002).bind fun bt309 => (some (x306000,x306001,bt309.1,([] : List (S27)),bt309.2.1,bt309.2.2))) else (if x1 > 8 then (impl_getter_term.j1 k x1 x1000 x1001 true x306000 x306001 x306002) else (impl_getter_term.j1 k x1 x1000 x1001 x1002 x306000 x306001 x306002)))
def impl_getter_term.j1 : Nat → Int → List Int → Int → Bool → Int → Int → ByteArray → Option (Int × Int × ByteArray × (List (S27)) × Int × Bool)
 | 0,_,_,_,_,_,_,_ => none
 | k + 1,x1,x1000,x1001,x1002,x306000,x306001,x306002 => (impl_getter_count.f k x1000 x1001 x1002 60).bind fun bt312 => (impl_getter_term.l0 k x1 bt312.1 0 x1000 bt312.2.1 bt312.2.2 x306000 x306001 x306002 ([] : List (S27)))
def impl_getter_term.l0 : Nat → Int → Int → Int → List Int → Int → Bool → Int → Int → ByteArray → List (S27) → Option (Int × Int × ByteArray × (List (S27)) × Int × Bool)
 | 0,_,_,_,_,_,_,_,_,_,_ => none
 | k + 1,x1,x31,x32,x1000,x1001,x1002,x306000,x306001,x306002,x306003 => if x32 < x31 then (if x1002 = true then (some (x306000,x306001,x306002,x306003,x1001,x1002)) else ((impl_getter_term.f k x1000 x1001 x1002 (wrap64 (x1 + 1))).bind fun bt315 => (if x306003.length < 2513169434916 then (impl_getter_term.l0 k x1 x31 (wrap64 (x32 + 1)) x1000 bt315.2.2.2.2.1 bt315.2.2.2.2.2 x306000 x306001 x306002 (x306003 ++ [(⟨bt315.1,bt315.2.1,bt315.2.2.1,bt315.2.2.2.1⟩ : S27)])) else (none)))) else (some (x306000,x306001,x306002,x306003,x1001,x1002))
def impl_getter_term.f : Nat → List Int → Int → Bool → Int → Option (Int × Int × ByteArray × (List (S27)) × Int × Bool)
 | 0,_,_,_,_ => none
 | k + 1,s0_0,s0_1,s0_2,a1 => (impl_getter_num.f k s0_0 s0_1 s0_2).bind fun bt302 => (if bt302.1 = 1 then (impl_getter_term.j0 k a1 bt302.1 (bt302.1 == 1) s0_0 bt302.2.1 bt302.2.2 bt302.1 0 (⟨#[]⟩ : ByteArray)) else (impl_getter_term.j0 k a1 bt302.1 (bt302.1 == 3) s0_0 bt302.2.1 bt302.2.2 bt302.1 0 (⟨#[]⟩ : ByteArray)))
end
theorem impl_getter_term.mono_l : ∀ k,(∀ y0 y1 y2 y3,LeO (impl_getter_term.f k y0 y1 y2 y3) (impl_getter_term.f (k + 1) y0 y1 y2 y3)) ∧ (∀ y0 y1 y2 y3 y4 y5 y6 y7 y8,LeO (impl_getter_term.j0 k y0 y1 y2 y3 y4 y5 y6 y7 y8) (impl_getter_term.j0 (k + 1) y0 y1 y2 y3 y4 y5 y6 y7 y8)) ∧ (∀ y0 y1 y2 y3 y4 y5 y6,LeO (impl_getter_term.j1 k y0 y1 y2 y3 y4 y5 y6) (impl_getter_term.j1 (k + 1) y0 y1 y2 y3 y4 y5 y6)) ∧ (∀ y0 y1 y2 y3 y4 y5 y6 y7 y8 y9,LeO (impl_getter_term.l0 k y0 y1 y2 y3 y4 y5 y6 y7 y8 y9) (impl_getter_term.l0 (k + 1) y0 y1 y2 y3 y4 y5 y6 y7 y8 y9))
 | 0 => ⟨fun _ _ _ _ r h => by simp [impl_getter_term.f] at h,fun _ _ _ _ _ _ _ _ _ r h => by simp [impl_getter_term.j0] at h,fun _ _ _ _ _ _ _ r h => by simp [impl_getter_term.j1] at h,fun _ _ _ _ _ _ _ _ _ _ r h => by simp [impl_getter_term.l0] at h⟩
 | k + 1 => by
  obtain ⟨ih0,ih1,ih2,ih3⟩ := impl_getter_term.mono_l k
  refine ⟨?_,?_,?_,?_⟩
  ·intro y0 y1 y2 y3
   unfold impl_getter_term.f
   repeat' first
   | (with_reducible exact ih0 _ _ _ _)
   | (with_reducible exact ih1 _ _ _ _ _ _ _ _ _)
   | (with_reducible exact ih2 _ _ _ _ _ _ _)
   | (with_reducible exact ih3 _ _ _ _ _ _ _ _ _ _)
   | (with_reducible exact impl_getter_count.mono _ _ _ _ _)
   | (with_reducible exact impl_getter_num.mono _ _ _ _)
   | (with_reducible exact impl_getter_text.mono _ _ _ _)
   | (with_reducible exact LeO.refl _)
   | (with_reducible exact LeO.none _)
   | (with_reducible refine LeO.ite ?_ ?_)
   | (with_reducible refine LeO.bind ?_ (fun _ => ?_))
   | exact ih0 _ _ _ _
   | exact ih1 _ _ _ _ _ _ _ _ _
   | exact ih2 _ _ _ _ _ _ _
   | exact ih3 _ _ _ _ _ _ _ _ _ _
   | exact impl_getter_count.mono _ _ _ _ _
   | exact impl_getter_num.mono _ _ _ _
   | exact impl_getter_text.mono _ _ _ _
   | exact LeO.none _
   | refine LeO.ite ?_ ?_
   | refine LeO.bind ?_ (fun _ => ?_)
  ·intro y0 y1 y2 y3 y4 y5 y6 y7 y8
   unfold impl_getter_term.j0
   repeat' first
   | (with_reducible exact ih0 _ _ _ _)
   | (with_reducible exact ih1 _ _ _ _ _ _ _ _ _)
   | (with_reducible exact ih2 _ _ _ _ _ _ _)
   | (with_reducible exact ih3 _ _ _ _ _ _ _ _ _ _)
   | (with_reducible exact impl_getter_count.mono _ _ _ _ _)
   | (with_reducible exact impl_getter_num.mono _ _ _ _)
   | (with_reducible exact impl_getter_text.mono _ _ _ _)
   | (with_reducible exact LeO.refl _)
   | (with_reducible exact LeO.none _)
   | (with_reducible refine LeO.ite ?_ ?_)
   | (with_reducible refine LeO.bind ?_ (fun _ => ?_))
   | exact ih0 _ _ _ _
   | exact ih1 _ _ _ _ _ _ _ _ _
   | exact ih2 _ _ _ _ _ _ _
   | exact ih3 _ _ _ _ _ _ _ _ _ _
   | exact impl_getter_count.mono _ _ _ _ _
   | exact impl_getter_num.mono _ _ _ _
   | exact impl_getter_text.mono _ _ _ _
   | exact LeO.none _
   | refine LeO.ite ?_ ?_
   | refine LeO.bind ?_ (fun _ => ?_)
  ·intro y0 y1 y2 y3 y4 y5 y6
   unfold impl_getter_term.j1
   repeat' first
   | (with_reducible exact ih0 _ _ _ _)
   | (with_reducible exact ih1 _ _ _ _ _ _ _ _ _)
   | (with_reducible exact ih2 _ _ _ _ _ _ _)
   | (with_reducible exact ih3 _ _ _ _ _ _ _ _ _ _)
   | (with_reducible exact impl_getter_count.mono _ _ _ _ _)
   | (with_reducible exact impl_getter_num.mono _ _ _ _)
   | (with_reducible exact impl_getter_text.mono _ _ _ _)
   | (with_reducible exact LeO.refl _)
   | (with_reducible exact LeO.none _)
   | (with_reducible refine LeO.ite ?_ ?_)
   | (with_reducible refine LeO.bind ?_ (fun _ => ?_))
   | exact ih0 _ _ _ _
   | exact ih1 _ _ _ _ _ _ _ _ _
   | exact ih2 _ _ _ _ _ _ _
   | exact ih3 _ _ _ _ _ _ _ _ _ _
   | exact impl_getter_count.mono _ _ _ _ _
   | exact impl_getter_num.mono _ _ _ _
   | exact impl_getter_text.mono _ _ _ _
   | exact LeO.none _
   | refine LeO.ite ?_ ?_
   | refine LeO.bind ?_ (fun _ => ?_)
  ·intro y0 y1 y2 y3 y4 y5 y6 y7 y8 y9
   unfold impl_getter_term.l0
   repeat' first
   | (with_reducible exact ih0 _ _ _ _)
   | (with_reducible exact ih1 _ _ _ _ _ _ _ _ _)
   | (with_reducible exact ih2 _ _ _ _ _ _ _)
   | (with_reducible exact ih3 _ _ _ _ _ _ _ _ _ _)
   | (with_reducible exact impl_getter_count.mono _ _ _ _ _)
   | (with_reducible exact impl_getter_num.mono _ _ _ _)
   | (with_reducible exact impl_getter_text.mono _ _ _ _)
   | (with_reducible exact LeO.refl _)
   | (with_reducible exact LeO.none _)
   | (with_reducible refine LeO.ite ?_ ?_)
   | (with_reducible refine LeO.bind ?_ (fun _ => ?_))
   | exact ih0 _ _ _ _
   | exact ih1 _ _ _ _ _ _ _ _ _
   | exact ih2 _ _ _ _ _ _ _
   | exact ih3 _ _ _ _ _ _ _ _ _ _
   | exact impl_getter_count.mono _ _ _ _ _
   | exact impl_getter_num.mono _ _ _ _
   | exact impl_getter_text.mono _ _ _ _
   | exact LeO.none _
   | refine LeO.ite ?_ ?_
   | refine LeO.bind ?_ (fun _ => ?_)
theorem impl_getter_term.mono : ∀ a0 a1 a2 a3 k,LeO (impl_getter_term.f k a0 a1 a2 a3) (impl_getter_term.f (k + 1) a0 a1 a2 a3) := by
 intro a0 a1 a2 a3 k
 obtain ⟨ih0,ih1,ih2,ih3⟩ := impl_getter_term.mono_l k
 exact ih0 a0 a1 a2 a3
set_option maxHeartbeats 8000000 in
set_option maxRecDepth 100000 in
theorem impl_getter_term.calls (k : Nat) : ∀ (g : Nat) (s0_0 : List Int) (s0_1 : Int) (s0_2 : Bool) (a1 : Int) (r1 : Int) (r2 : Int) (r3 : ByteArray) (r4 : List (S27)) (r5 : Int) (r6 : Bool) (w0 w : World) (hI : IsS40 w0 w g s0_0 s0_1 s0_2) (hB : Below w0.heap.size w0 w) (h : impl_getter_term.f k s0_0 s0_1 s0_2 a1 = some (r1,r2,r3,r4,r5,r6)),
  Calls Try.prog 17 #[.pointer (some ⟨g,0,none⟩),.int .i64 a1] w fun e w' => ∃ v3_ : Value,e = .returned (.agg #[.int .i64 r1,.int .i64 r2,.string r3,v3_]) ∧ Kd.R k27 27 w' w.heap.size (fun _ => True) v3_ r4 ∧ IsS40 w0 w' g s0_0 r5 r6 ∧ Below w0.heap.size w0 w' ∧ KeepBut w w' g none := by
 induction k using Nat.strongRecOn with
 | _ k ih =>
 intro g s0_0 s0_1 s0_2 a1 r1 r2 r3 r4 r5 r6 w0 w hI hB h
 cases k with
 | zero => exact absurd h (by simp [impl_getter_term.f])
 | succ k =>
 simp only [impl_getter_term.f] at h
 have hu27 := Try.underlying27
 have HI0 := Aside0.mk hI
 have HK := Aside0.mk (KeepBut.refl w g none)
 have HL := Aside0.mk hB.size
 clear hI
 have HW0 := Aside0.mk hB.size
 have HB := Aside0.mk hB
 clear hB
 have H : ((impl_getter_num.f k s0_0 s0_1 s0_2).bind fun bt302 => (if bt302.1 = 1 then (impl_getter_term.j0 k a1 bt302.1 (bt302.1 == 1) s0_0 bt302.2.1 bt302.2.2 bt302.1 0 (⟨#[]⟩ : ByteArray)) else (impl_getter_term.j0 k a1 bt302.1 (bt302.1 == 3) s0_0 bt302.2.1 bt302.2.2 bt302.1 0 (⟨#[]⟩ : ByteArray)))) = some (r1,r2,r3,r4,r5,r6) := h
 clear h
 replace H := Option.bind_eq_some_iff.mp H
 obtain ⟨⟨t302,t303,t304⟩,A30,H⟩ := H
 replace H : (if t302 = 1 then (impl_getter_term.j0 k a1 t302 (t302 == 1) s0_0 t303 t304 t302 0 (⟨#[]⟩ : ByteArray)) else (impl_getter_term.j0 k a1 t302 (t302 == 3) s0_0 t303 t304 t302 0 (⟨#[]⟩ : ByteArray))) = some (r1,r2,r3,r4,r5,r6) := H
 have A3 := Aside0.mk A30
 clear A30
 have HC4 := Aside0.mk H
 clear H
 go_enter Try.func17,Try.ntmps17
 go_upto_if 12 with (first | ((with_reducible refine gate_dst (N := 4) rfl ?_);refine box_event ?hg (N := 4) ?hd (cs := #[.int .i64 0,.int .i64 0,.string (⟨#[]⟩ : ByteArray),.slice none 0 0]) (t := 27) ?hr ?_;(case hd => rfl);(case hg => rfl);(case hr => first | (go_simp;done) | (go_simp;rfl));intro gb301 hg w5 hbox hb;have n0_ := Aside0.mk (IsS40.below (by repeat (first | (with_reducible first | exact HI0.out | apply IsS40.alloc | apply IsS40.drewN | apply IsS40.drew | apply IsS40.set_1 | apply IsS40.set_2) | exact HI0.out)) hb);have n1_ := Aside0.mk (KeepBut.trans (by repeat (first | (with_reducible first | exact HK.out | apply KeepBut.set_ | apply keep_drewN | apply keep_drew | apply keep_alloc) | exact HK.out)) (KeepBut.of_below hb g none) (.inl rfl));have n2_ := Aside0.mk (below_step (by repeat (first | (with_reducible first | exact HB.out | apply below_alloc | apply pw_below_drewN | apply below_drew1 | refine below_set ?_ (IsS40.ge HI0.out)) | exact HB.out)) hb);have n3_ := Aside0.mk (hbox);have n4_ := Aside0.mk ((by rw [hg];exact (keep_size (w := w) (g := g) (row := none) (by repeat (first | (with_reducible first | exact HK.out | apply KeepBut.set_ | apply keep_drewN | apply keep_drew | apply keep_alloc) | exact HK.out))) : w.heap.size ≤ gb301));have n5_ := Aside0.mk ((Nat.le_trans HW0.out (by rw [hg];exact (keep_size (w := w) (g := g) (row := none) (by repeat (first | (with_reducible first | exact HK.out | apply KeepBut.set_ | apply keep_drewN | apply keep_drew | apply keep_alloc) | exact HK.out))) : w.heap.size ≤ gb301) : w0.heap.size ≤ gb301));have n6_ := Aside0.mk ((by rw [hg];exact Nat.ne_of_lt (IsS40.lt (show IsS40 w0 _ g s0_0 s0_1 s0_2 from by repeat (first | (with_reducible first | exact HI0.out | apply IsS40.alloc | apply IsS40.drewN | apply IsS40.drew | apply IsS40.set_1 | apply IsS40.set_2) | exact HI0.out))) : g ≠ gb301));have n7_ := Aside0.mk ((by rw [hg];exact Nat.ne_of_gt (IsS40.lt (show IsS40 w0 _ g s0_0 s0_1 s0_2 from by repeat (first | (with_reducible first | exact HI0.out | apply IsS40.alloc | apply IsS40.drewN | apply IsS40.drew | apply IsS40.set_1 | apply IsS40.set_2) | exact HI0.out))) : gb301 ≠ g));clear HI0;clear HK;clear HB;have HI0 := n0_;have HK := n1_;have HB := n2_;have BK301 := n3_;have GW301 := n4_;have GE301 := n5_;have NB0_301 := n6_;have NB301_0 := n7_;clear n0_ n1_ n2_ n3_ n4_ n5_ n6_ n7_;clear hb hbox hg) | ((with_reducible refine gate_callee (f := 26) rfl ?_);refine goesL_ (some 8) rfl rfl Try.func26 (by kernel_rfl) rfl #[.pointer (some ⟨g,0,none⟩)] rfl (by (try simp only [List.map_toArray,List.map_cons,List.map_nil]);first | done | rfl | (simp only [List.length_drop,List.length_take];rfl)) ?_;(with_reducible refine (impl_getter_num.calls k g s0_0 s0_1 s0_2 t302 t303 t304 w0 _ ?side1 ?side2 A3.out).mono ?_);(case side1 => repeat (first | (with_reducible first | exact HI0.out | apply IsS40.alloc | apply IsS40.drewN | apply IsS40.drew | apply IsS40.set_1 | apply IsS40.set_2 | refine IsS40.far ?_ NB0_301.out _) | exact HI0.out));(case side2 => repeat (first | (with_reducible first | exact HB.out | apply below_alloc | apply pw_below_drewN | apply below_drew1 | refine below_set ?_ (IsS40.ge HI0.out) | refine below_set ?_ GE301.out) | exact HB.out));rintro e w6 ⟨rfl,hi,hb,hk⟩;refine ⟨_,rfl,?_⟩;have n0_ := Aside0.mk (KeepBut.blk hk (g' := gb301) (o := .cells #[.int .i64 0,.int .i64 0,.string (⟨#[]⟩ : ByteArray),.slice none 0 0] 27 (0,0)) (by (with_reducible repeat (first | refine blk_drewN ?_ _ | refine blk_drew ?_ | refine blk_alloc ?_ _));exact BK301.out) NB301_0.out (by simp));have n1_ := Aside0.mk (KeepBut.trans (by repeat (first | (with_reducible first | exact HK.out | apply KeepBut.set_ | apply keep_drewN | apply keep_drew | apply keep_alloc | refine keep_far ?_ GW301.out _) | exact HK.out)) hk (.inl rfl));have n2_ := Aside0.mk (hb);have n3_ := Aside0.mk (hi);clear BK301;clear HK;clear HB;clear HI0;have BK301 := n0_;have HK := n1_;have HB := n2_;have HI0 := n3_;clear n0_ n1_ n2_ n3_;(try clear hb);(try clear hb2);(try clear hk);(try clear hi)) | ((with_reducible refine gate_dst (N := 5) rfl ?_);refine box_event ?hg (N := 5) ?hd (cs := #[.int .i64 0,.int .i64 0,.string (⟨#[]⟩ : ByteArray),.slice none 0 0]) (t := 27) ?hr ?_;(case hd => rfl);(case hg => rfl);(case hr => first | (go_simp;done) | (go_simp;rfl));intro gb305 hg w7 hbox hb;have n0_ := Aside0.mk (IsS40.below (by repeat (first | (with_reducible first | exact HI0.out | apply IsS40.alloc | apply IsS40.drewN | apply IsS40.drew | apply IsS40.set_1 | apply IsS40.set_2 | refine IsS40.far ?_ NB0_301.out _) | exact HI0.out)) hb);have n1_ := Aside0.mk (blk_below (g := gb301) (o := .cells #[.int .i64 0,.int .i64 0,.string (⟨#[]⟩ : ByteArray),.slice none 0 0] 27 (0,0)) (by (with_reducible repeat (first | refine blk_drewN ?_ _ | refine blk_drew ?_ | refine blk_alloc ?_ _));exact BK301.out) hb);have n2_ := Aside0.mk (KeepBut.trans (by repeat (first | (with_reducible first | exact HK.out | apply KeepBut.set_ | apply keep_drewN | apply keep_drew | apply keep_alloc | refine keep_far ?_ GW301.out _) | exact HK.out)) (KeepBut.of_below hb g none) (.inl rfl));have n3_ := Aside0.mk (below_step (by repeat (first | (with_reducible first | exact HB.out | apply below_alloc | apply pw_below_drewN | apply below_drew1 | refine below_set ?_ (IsS40.ge HI0.out) | refine below_set ?_ GE301.out) | exact HB.out)) hb);have n4_ := Aside0.mk (hbox);have n5_ := Aside0.mk ((by rw [hg];exact (keep_size (w := w) (g := g) (row := none) (by repeat (first | (with_reducible first | exact HK.out | apply KeepBut.set_ | apply keep_drewN | apply keep_drew | apply keep_alloc | refine keep_far ?_ GW301.out _) | exact HK.out))) : w.heap.size ≤ gb305));have n6_ := Aside0.mk ((Nat.le_trans HW0.out (by rw [hg];exact (keep_size (w := w) (g := g) (row := none) (by repeat (first | (with_reducible first | exact HK.out | apply KeepBut.set_ | apply keep_drewN | apply keep_drew | apply keep_alloc | refine keep_far ?_ GW301.out _) | exact HK.out))) : w.heap.size ≤ gb305) : w0.heap.size ≤ gb305));have n7_ := Aside0.mk ((by rw [hg];exact Nat.ne_of_lt (blk_lt (g := gb301) (o := .cells #[.int .i64 0,.int .i64 0,.string (⟨#[]⟩ : ByteArray),.slice none 0 0] 27 (0,0)) (by (with_reducible repeat (first | refine blk_drewN ?_ _ | refine blk_drew ?_ | refine blk_alloc ?_ _));exact BK301.out)) : gb301 ≠ gb305));have n8_ := Aside0.mk ((by rw [hg];exact Nat.ne_of_gt (blk_lt (g := gb301) (o := .cells #[.int .i64 0,.int .i64 0,.string (⟨#[]⟩ : ByteArray),.slice none 0 0] 27 (0,0)) (by (with_reducible repeat (first | refine blk_drewN ?_ _ | refine blk_drew ?_ | refine blk_alloc ?_ _));exact BK301.out)) : gb305 ≠ gb301));have n9_ := Aside0.mk ((by rw [hg];exact Nat.ne_of_lt (IsS40.lt (show IsS40 w0 _ g s0_0 t303 t304 from by repeat (first | (with_reducible first | exact HI0.out | apply IsS40.alloc | apply IsS40.drewN | apply IsS40.drew | apply IsS40.set_1 | apply IsS40.set_2 | refine IsS40.far ?_ NB0_301.out _) | exact HI0.out))) : g ≠ gb305));have n10_ := Aside0.mk ((by rw [hg];exact Nat.ne_of_gt (IsS40.lt (show IsS40 w0 _ g s0_0 t303 t304 from by repeat (first | (with_reducible first | exact HI0.out | apply IsS40.alloc | apply IsS40.drewN | apply IsS40.drew | apply IsS40.set_1 | apply IsS40.set_2 | refine IsS40.far ?_ NB0_301.out _) | exact HI0.out))) : gb305 ≠ g));clear HI0;clear BK301;clear HK;clear HB;have HI0 := n0_;have BK301 := n1_;have HK := n2_;have HB := n3_;have BK305 := n4_;have GW305 := n5_;have GE305 := n6_;have NB301_305 := n7_;have NB305_301 := n8_;have NB0_305 := n9_;have NB305_0 := n10_;clear n0_ n1_ n2_ n3_ n4_ n5_ n6_ n7_ n8_ n9_ n10_;clear hb hbox hg;have hnb8 := NB305_301.out;have hnc8 := NB301_305.out;have hnb9 := NB305_0.out;have hnc9 := NB0_305.out;have hcz10_0 : w7.cell? ⟨gb305,0,none⟩ = some (.int .i64 0) := (blk_cell BK305.out 0).trans rfl;have hcz10_1 : w7.cell? ⟨gb305,1,none⟩ = some (.int .i64 0) := (blk_cell BK305.out 1).trans rfl;have hcz10_2 : w7.cell? ⟨gb305,2,none⟩ = some (.string (⟨#[]⟩ : ByteArray)) := (blk_cell BK305.out 2).trans rfl;have hcz10_3 : w7.cell? ⟨gb305,3,none⟩ = some (.slice none 0 0) := (blk_cell BK305.out 3).trans rfl;have hfz10_0 := blk_frozen BK305.out 0;have hfz10_1 := blk_frozen BK305.out 1;have hfz10_2 := blk_frozen BK305.out 2;have hfz10_3 := blk_frozen BK305.out 3))
 (try simp only [Act.put,List.setIfInBounds_toArray,List.set_cons_zero,List.set_cons_succ])
 go_cut [12] (fun v12 wc => ∃ (kq : Nat) (x12_3 : Bool),v12 = .bool x12_3 ∧ Aside0 (impl_getter_term.j0 kq a1 t302 x12_3 s0_0 t303 t304 t302 0 (⟨#[]⟩ : ByteArray) = some (r1,r2,r3,r4,r5,r6)) ∧ Aside0 (kq ≤ k) ∧ Aside0 (wc.heap[gb301]? = some (.cells #[.int .i64 0,.int .i64 0,.string (⟨#[]⟩ : ByteArray),(.slice none 0 0)] 27 (0,0))) ∧ Aside0 (wc.heap[gb305]? = some (.cells #[.int .i64 t302,.int .i64 0,.string (⟨#[]⟩ : ByteArray),(.slice none 0 0)] 27 (0,0))) ∧ Aside0 (IsS40 w0 wc g s0_0 t303 t304) ∧ Aside0 (KeepBut w wc g none) ∧ Aside0 (Below w0.heap.size w0 wc))
 case first =>
  have H := HC4.out
  clear HC4
  by_cases c11 : t302 = 1
  ·rw [if_pos c11] at H
   have c11b0 : (t302 == 1) = true := beq_iff_eq.mpr c11
   have c11b1 : (t302 != 1) = false := bne_eq_false_iff_eq.mpr c11
   clear c11
   (first | rw [c11b0] | (simp only [i64_w,i32_w];rw [c11b0]) | (simp only [c11b2,Bool.not_true,Bool.not_false]) | skip)
   have H' := Aside0.mk H
   clear H
   go_wp2
   go_meet
   case rel => exact ⟨_,((t302 == 1)),(by first | rfl | (simp;done) | (simp [*];done)),H',⟨by first | omega | exact Nat.le_refl _⟩,⟨by (with_reducible repeat (first | refine blk_drewN ?_ _ | refine blk_drew ?_ | refine blk_alloc ?_ _));refine blk_far ?_ NB301_305.out _;(with_reducible repeat (first | refine blk_drewN ?_ _ | refine blk_drew ?_ | refine blk_alloc ?_ _));refine blk_far ?_ NB301_305.out _;(with_reducible repeat (first | refine blk_drewN ?_ _ | refine blk_drew ?_ | refine blk_alloc ?_ _));refine blk_far ?_ NB301_305.out _;(with_reducible repeat (first | refine blk_drewN ?_ _ | refine blk_drew ?_ | refine blk_alloc ?_ _));refine blk_far ?_ NB301_305.out _;(with_reducible repeat (first | refine blk_drewN ?_ _ | refine blk_drew ?_ | refine blk_alloc ?_ _));exact BK301.out⟩,⟨by (with_reducible repeat (first | refine blk_drewN ?_ _ | refine blk_drew ?_ | refine blk_alloc ?_ _));refine blk_put (cs := #[.int .i64 t302,.int .i64 0,.string (⟨#[]⟩ : ByteArray),.slice none 0 0]) ?_ 3 _ rfl;(with_reducible repeat (first | refine blk_drewN ?_ _ | refine blk_drew ?_ | refine blk_alloc ?_ _));refine blk_put (cs := #[.int .i64 t302,.int .i64 0,.string (⟨#[]⟩ : ByteArray),.slice none 0 0]) ?_ 2 _ rfl;(with_reducible repeat (first | refine blk_drewN ?_ _ | refine blk_drew ?_ | refine blk_alloc ?_ _));refine blk_put (cs := #[.int .i64 t302,.int .i64 0,.string (⟨#[]⟩ : ByteArray),.slice none 0 0]) ?_ 1 _ rfl;(with_reducible repeat (first | refine blk_drewN ?_ _ | refine blk_drew ?_ | refine blk_alloc ?_ _));refine blk_put (cs := #[.int .i64 0,.int .i64 0,.string (⟨#[]⟩ : ByteArray),.slice none 0 0]) ?_ 0 _ rfl;(with_reducible repeat (first | refine blk_drewN ?_ _ | refine blk_drew ?_ | refine blk_alloc ?_ _));exact BK305.out⟩,⟨by repeat (first | (with_reducible first | exact HI0.out | apply IsS40.alloc | apply IsS40.drewN | apply IsS40.drew | apply IsS40.set_1 | apply IsS40.set_2 | refine IsS40.far ?_ NB0_301.out _ | refine IsS40.far ?_ NB0_305.out _) | exact HI0.out)⟩,⟨by repeat (first | (with_reducible first | exact HK.out | apply KeepBut.set_ | apply keep_drewN | apply keep_drew | apply keep_alloc | refine keep_far ?_ GW301.out _ | refine keep_far ?_ GW305.out _) | exact HK.out)⟩,⟨by repeat (first | (with_reducible first | exact HB.out | apply below_alloc | apply pw_below_drewN | apply below_drew1 | refine below_set ?_ (IsS40.ge HI0.out) | refine below_set ?_ GE301.out | refine below_set ?_ GE305.out) | exact HB.out)⟩⟩
  ·rw [if_neg c11] at H
   have c11b0 : (t302 == 1) = false := beq_eq_false_iff_ne.mpr c11
   have c11b1 : (t302 != 1) = true := bne_iff_ne.mpr c11
   (first | rw [c11b0] | (simp only [i64_w,i32_w];rw [c11b0]) | (simp only [c11b2,Bool.not_true,Bool.not_false]) | skip)
   have H' := Aside0.mk H
   clear H
   go_wp2
   go_meet
   case rel => exact ⟨_,((t302 == 3)),(by first | rfl | (simp;done) | (simp [*];done)),H',⟨by first | omega | exact Nat.le_refl _⟩,⟨by (with_reducible repeat (first | refine blk_drewN ?_ _ | refine blk_drew ?_ | refine blk_alloc ?_ _));refine blk_far ?_ NB301_305.out _;(with_reducible repeat (first | refine blk_drewN ?_ _ | refine blk_drew ?_ | refine blk_alloc ?_ _));refine blk_far ?_ NB301_305.out _;(with_reducible repeat (first | refine blk_drewN ?_ _ | refine blk_drew ?_ | refine blk_alloc ?_ _));refine blk_far ?_ NB301_305.out _;(with_reducible repeat (first | refine blk_drewN ?_ _ | refine blk_drew ?_ | refine blk_alloc ?_ _));refine blk_far ?_ NB301_305.out _;(with_reducible repeat (first | refine blk_drewN ?_ _ | refine blk_drew ?_ | refine blk_alloc ?_ _));exact BK301.out⟩,⟨by (with_reducible repeat (first | refine blk_drewN ?_ _ | refine blk_drew ?_ | refine blk_alloc ?_ _));refine blk_put (cs := #[.int .i64 t302,.int .i64 0,.string (⟨#[]⟩ : ByteArray),.slice none 0 0]) ?_ 3 _ rfl;(with_reducible repeat (first | refine blk_drewN ?_ _ | refine blk_drew ?_ | refine blk_alloc ?_ _));refine blk_put (cs := #[.int .i64 t302,.int .i64 0,.string (⟨#[]⟩ : ByteArray),.slice none 0 0]) ?_ 2 _ rfl;(with_reducible repeat (first | refine blk_drewN ?_ _ | refine blk_drew ?_ | refine blk_alloc ?_ _));refine blk_put (cs := #[.int .i64 t302,.int .i64 0,.string (⟨#[]⟩ : ByteArray),.slice none 0 0]) ?_ 1 _ rfl;(with_reducible repeat (first | refine blk_drewN ?_ _ | refine blk_drew ?_ | refine blk_alloc ?_ _));refine blk_put (cs := #[.int .i64 0,.int .i64 0,.string (⟨#[]⟩ : ByteArray),.slice none 0 0]) ?_ 0 _ rfl;(with_reducible repeat (first | refine blk_drewN ?_ _ | refine blk_drew ?_ | refine blk_alloc ?_ _));exact BK305.out⟩,⟨by repeat (first | (with_reducible first | exact HI0.out | apply IsS40.alloc | apply IsS40.drewN | apply IsS40.drew | apply IsS40.set_1 | apply IsS40.set_2 | refine IsS40.far ?_ NB0_301.out _ | refine IsS40.far ?_ NB0_305.out _) | exact HI0.out)⟩,⟨by repeat (first | (with_reducible first | exact HK.out | apply KeepBut.set_ | apply keep_drewN | apply keep_drew | apply keep_alloc | refine keep_far ?_ GW301.out _ | refine keep_far ?_ GW305.out _) | exact HK.out)⟩,⟨by repeat (first | (with_reducible first | exact HB.out | apply below_alloc | apply pw_below_drewN | apply below_drew1 | refine below_set ?_ (IsS40.ge HI0.out) | refine below_set ?_ GE301.out | refine below_set ?_ GE305.out) | exact HB.out)⟩⟩
 case rest =>
  clear HC4
  try clear c1
  try clear c2
  try clear p2
  try clear c8
  try clear c9
  try clear c11
  try clear c11b0
  try clear c11b1
  try clear c11b2
  try clear hcz10_0
  try clear hcz10_1
  try clear hcz10_2
  try clear hcz10_3
  try clear hfz10_0
  try clear hfz10_1
  try clear hfz10_2
  try clear hfz10_3
  try clear BK301
  try clear BK305
  try clear HI0
  try clear HK
  try clear HB
  obtain ⟨kq,x12_3,rfl,HA,HJ3,BK301,BK305,HI0,HK,HB⟩ := hcut
  cases kq with
  | zero => exact absurd HA.out (by simp [impl_getter_term.j0])
  | succ kj3 =>
   have H := HA.out
   clear HA
   simp only [impl_getter_term.j0] at H
   by_cases c12 : x12_3 = true
   ·subst c12
    have H1 : ((impl_getter_num.f kj3 s0_0 t303 t304).bind fun bt306 => (some (t302,bt306.1,(⟨#[]⟩ : ByteArray),([] : List (S27)),bt306.2.1,bt306.2.2))) = some (r1,r2,r3,r4,r5,r6) := by rw [if_pos rfl] at H;exact H
    clear H
    have H := H1
    clear H1
    replace H := Option.bind_eq_some_iff.mp H
    obtain ⟨⟨t306,t307,t308⟩,A130,H⟩ := H
    replace H : (some (t302,t306,(⟨#[]⟩ : ByteArray),([] : List (S27)),t307,t308)) = some (r1,r2,r3,r4,r5,r6) := H
    have A13 := Aside0.mk A130
    clear A130
    simp only [Option.some.injEq,Prod.mk.injEq] at H
    obtain ⟨rfl,rfl,rfl,rfl,rfl,rfl⟩ := H
    go_wp2_with (first | ((with_reducible refine gate_callee (f := 26) rfl ?_);refine goesL_ (some 16) rfl rfl Try.func26 (by kernel_rfl) rfl #[.pointer (some ⟨g,0,none⟩)] rfl (by (try simp only [List.map_toArray,List.map_cons,List.map_nil]);first | done | rfl | (simp only [List.length_drop,List.length_take];rfl)) ?_;(with_reducible refine (impl_getter_num.calls kj3 g s0_0 t303 t304 t306 t307 t308 w0 _ ?side1 ?side2 A13.out).mono ?_);(case side1 => repeat (first | (with_reducible first | exact HI0.out | apply IsS40.alloc | apply IsS40.drewN | apply IsS40.drew | apply IsS40.set_1 | apply IsS40.set_2 | refine IsS40.far ?_ NB0_301.out _ | refine IsS40.far ?_ NB0_305.out _) | exact HI0.out));(case side2 => repeat (first | (with_reducible first | exact HB.out | apply below_alloc | apply pw_below_drewN | apply below_drew1 | refine below_set ?_ (IsS40.ge HI0.out) | refine below_set ?_ GE301.out | refine below_set ?_ GE305.out) | exact HB.out));rintro e w14 ⟨rfl,hi,hb,hk⟩;refine ⟨_,rfl,?_⟩;have n0_ := Aside0.mk (KeepBut.blk hk (g' := gb301) (o := .cells #[.int .i64 0,.int .i64 0,.string (⟨#[]⟩ : ByteArray),.slice none 0 0] 27 (0,0)) (by (with_reducible repeat (first | refine blk_drewN ?_ _ | refine blk_drew ?_ | refine blk_alloc ?_ _));exact BK301.out) NB301_0.out (by simp));have n1_ := Aside0.mk (KeepBut.blk hk (g' := gb305) (o := .cells #[.int .i64 t302,.int .i64 0,.string (⟨#[]⟩ : ByteArray),.slice none 0 0] 27 (0,0)) (by (with_reducible repeat (first | refine blk_drewN ?_ _ | refine blk_drew ?_ | refine blk_alloc ?_ _));exact BK305.out) NB305_0.out (by simp));have n2_ := Aside0.mk (KeepBut.trans (by repeat (first | (with_reducible first | exact HK.out | apply KeepBut.set_ | apply keep_drewN | apply keep_drew | apply keep_alloc | refine keep_far ?_ GW301.out _ | refine keep_far ?_ GW305.out _) | exact HK.out)) hk (.inl rfl));have n3_ := Aside0.mk (hb);have n4_ := Aside0.mk (hi);clear BK301;clear BK305;clear HK;clear HB;clear HI0;have BK301 := n0_;have BK305 := n1_;have HK := n2_;have HB := n3_;have HI0 := n4_;clear n0_ n1_ n2_ n3_ n4_;(try clear hb);(try clear hb2);(try clear hk);(try clear hi);have hnb15 := NB305_301.out;have hnc15 := NB301_305.out;have hnb16 := NB305_0.out;have hnc16 := NB0_305.out;have hcz17_0 : w14.cell? ⟨gb305,0,none⟩ = some (.int .i64 t302) := (blk_cell BK305.out 0).trans rfl;have hcz17_1 : w14.cell? ⟨gb305,1,none⟩ = some (.int .i64 0) := (blk_cell BK305.out 1).trans rfl;have hcz17_2 : w14.cell? ⟨gb305,2,none⟩ = some (.string (⟨#[]⟩ : ByteArray)) := (blk_cell BK305.out 2).trans rfl;have hcz17_3 : w14.cell? ⟨gb305,3,none⟩ = some (.slice none 0 0) := (blk_cell BK305.out 3).trans rfl;have hfz17_0 := blk_frozen BK305.out 0;have hfz17_1 := blk_frozen BK305.out 1;have hfz17_2 := blk_frozen BK305.out 2;have hfz17_3 := blk_frozen BK305.out 3;have hnb18 := NB301_0.out;have hnc18 := NB0_301.out;have hcz19_0 : w14.cell? ⟨gb301,0,none⟩ = some (.int .i64 0) := (blk_cell BK301.out 0).trans rfl;have hcz19_1 : w14.cell? ⟨gb301,1,none⟩ = some (.int .i64 0) := (blk_cell BK301.out 1).trans rfl;have hcz19_2 : w14.cell? ⟨gb301,2,none⟩ = some (.string (⟨#[]⟩ : ByteArray)) := (blk_cell BK301.out 2).trans rfl;have hcz19_3 : w14.cell? ⟨gb301,3,none⟩ = some (.slice none 0 0) := (blk_cell BK301.out 3).trans rfl;have hfz19_0 := blk_frozen BK301.out 0;have hfz19_1 := blk_frozen BK301.out 1;have hfz19_2 := blk_frozen BK301.out 2;have hfz19_3 := blk_frozen BK301.out 3))
    refine bodyPost_ret (results_cell_row rfl _ _ gb301 27 #[.int .i64 t302,.int .i64 t306,.string (⟨#[]⟩ : ByteArray),.slice none 0 0] (0,0) _ rfl (by (with_reducible repeat (first | refine blk_drewN ?_ _ | refine blk_drew ?_ | refine blk_alloc ?_ _));refine blk_put (cs := #[.int .i64 t302,.int .i64 t306,.string (⟨#[]⟩ : ByteArray),.slice none 0 0]) ?_ 3 _ rfl;(with_reducible repeat (first | refine blk_drewN ?_ _ | refine blk_drew ?_ | refine blk_alloc ?_ _));refine blk_put (cs := #[.int .i64 t302,.int .i64 t306,.string (⟨#[]⟩ : ByteArray),.slice none 0 0]) ?_ 2 _ rfl;(with_reducible repeat (first | refine blk_drewN ?_ _ | refine blk_drew ?_ | refine blk_alloc ?_ _));refine blk_put (cs := #[.int .i64 t302,.int .i64 0,.string (⟨#[]⟩ : ByteArray),.slice none 0 0]) ?_ 1 _ rfl;(with_reducible repeat (first | refine blk_drewN ?_ _ | refine blk_drew ?_ | refine blk_alloc ?_ _));refine blk_put (cs := #[.int .i64 0,.int .i64 0,.string (⟨#[]⟩ : ByteArray),.slice none 0 0]) ?_ 0 _ rfl;(with_reducible repeat (first | refine blk_drewN ?_ _ | refine blk_drew ?_ | refine blk_alloc ?_ _));refine blk_far ?_ NB301_305.out _;(with_reducible repeat (first | refine blk_drewN ?_ _ | refine blk_drew ?_ | refine blk_alloc ?_ _));exact BK301.out) Try.underlying27 rfl (by kernel_rfl)) rfl ?_
    exact ⟨_,by first | rfl | (simp [*,errW_none,errW_some] <;> rfl),by first | exact Kd.R_nil _ _ _ _ _ | exact Kd.N_nil _ _ _ _ _ | exact Kd.V_nil _ _ _ _ _ | exact Kd.Q_nil _ _ _ _ _ | exact Kd.S_nil _ _ _ _ _,by repeat (first | (with_reducible first | exact HI0.out | apply IsS40.alloc | apply IsS40.drewN | apply IsS40.drew | apply IsS40.set_1 | apply IsS40.set_2 | refine IsS40.far ?_ NB0_301.out _ | refine IsS40.far ?_ NB0_305.out _) | exact HI0.out),by repeat (first | (with_reducible first | exact HB.out | apply below_alloc | apply pw_below_drewN | apply below_drew1 | refine below_set ?_ (IsS40.ge HI0.out) | refine below_set ?_ GE301.out | refine below_set ?_ GE305.out) | exact HB.out),by repeat (first | (with_reducible first | exact HK.out | apply KeepBut.set_ | apply keep_drewN | apply keep_drew | apply keep_alloc | refine keep_far ?_ GW301.out _ | refine keep_far ?_ GW305.out _) | exact HK.out)⟩
   ·replace c12 := Bool.eq_false_iff.mpr c12
    subst c12
    have H1 : (if t302 = 2 then ((impl_getter_text.f kj3 s0_0 t303 t304).bind fun bt309 => (some (t302,0,bt309.1,([] : List (S27)),bt309.2.1,bt309.2.2))) else (if a1 > 8 then (impl_getter_term.j1 kj3 a1 s0_0 t303 true t302 0 (⟨#[]⟩ : ByteArray)) else (impl_getter_term.j1 kj3 a1 s0_0 t303 t304 t302 0 (⟨#[]⟩ : ByteArray)))) = some (r1,r2,r3,r4,r5,r6) := by rw [if_neg (show ¬ (false = true) by decide)] at H;exact H
    clear H
    have H := H1
    clear H1
    by_cases c20 : t302 = 2
    ·rw [if_pos c20] at H
     have c20b0 : (t302 == 2) = true := beq_iff_eq.mpr c20
     have c20b1 : (t302 != 2) = false := bne_eq_false_iff_eq.mpr c20
     clear c20
     replace H := Option.bind_eq_some_iff.mp H
     obtain ⟨⟨t309,t310,t311⟩,A210,H⟩ := H
     replace H : (some (t302,0,t309,([] : List (S27)),t310,t311)) = some (r1,r2,r3,r4,r5,r6) := H
     have A21 := Aside0.mk A210
     clear A210
     simp only [Option.some.injEq,Prod.mk.injEq] at H
     obtain ⟨rfl,rfl,rfl,rfl,rfl,rfl⟩ := H
     go_wp2_with (first | ((with_reducible refine gate_callee (f := 27) rfl ?_);refine goesL_ (some 22) rfl rfl Try.func27 (by kernel_rfl) rfl #[.pointer (some ⟨g,0,none⟩)] rfl (by (try simp only [List.map_toArray,List.map_cons,List.map_nil]);first | done | rfl | (simp only [List.length_drop,List.length_take];rfl)) ?_;(with_reducible refine (impl_getter_text.calls kj3 g s0_0 t303 t304 t309 t310 t311 w0 _ ?side1 ?side2 A21.out).mono ?_);(case side1 => repeat (first | (with_reducible first | exact HI0.out | apply IsS40.alloc | apply IsS40.drewN | apply IsS40.drew | apply IsS40.set_1 | apply IsS40.set_2 | refine IsS40.far ?_ NB0_301.out _ | refine IsS40.far ?_ NB0_305.out _) | exact HI0.out));(case side2 => repeat (first | (with_reducible first | exact HB.out | apply below_alloc | apply pw_below_drewN | apply below_drew1 | refine below_set ?_ (IsS40.ge HI0.out) | refine below_set ?_ GE301.out | refine below_set ?_ GE305.out) | exact HB.out));rintro e w22 ⟨rfl,hi,hb,hk⟩;refine ⟨_,rfl,?_⟩;have n0_ := Aside0.mk (KeepBut.blk hk (g' := gb301) (o := .cells #[.int .i64 0,.int .i64 0,.string (⟨#[]⟩ : ByteArray),.slice none 0 0] 27 (0,0)) (by (with_reducible repeat (first | refine blk_drewN ?_ _ | refine blk_drew ?_ | refine blk_alloc ?_ _));exact BK301.out) NB301_0.out (by simp));have n1_ := Aside0.mk (KeepBut.blk hk (g' := gb305) (o := .cells #[.int .i64 t302,.int .i64 0,.string (⟨#[]⟩ : ByteArray),.slice none 0 0] 27 (0,0)) (by (with_reducible repeat (first | refine blk_drewN ?_ _ | refine blk_drew ?_ | refine blk_alloc ?_ _));exact BK305.out) NB305_0.out (by simp));have n2_ := Aside0.mk (KeepBut.trans (by repeat (first | (with_reducible first | exact HK.out | apply KeepBut.set_ | apply keep_drewN | apply keep_drew | apply keep_alloc | refine keep_far ?_ GW301.out _ | refine keep_far ?_ GW305.out _) | exact HK.out)) hk (.inl rfl));have n3_ := Aside0.mk (hb);have n4_ := Aside0.mk (hi);clear BK301;clear BK305;clear HK;clear HB;clear HI0;have BK301 := n0_;have BK305 := n1_;have HK := n2_;have HB := n3_;have HI0 := n4_;clear n0_ n1_ n2_ n3_ n4_;(try clear hb);(try clear hb2);(try clear hk);(try clear hi);have hnb23 := NB305_301.out;have hnc23 := NB301_305.out;have hnb24 := NB305_0.out;have hnc24 := NB0_305.out;have hcz25_0 : w22.cell? ⟨gb305,0,none⟩ = some (.int .i64 t302) := (blk_cell BK305.out 0).trans rfl;have hcz25_1 : w22.cell? ⟨gb305,1,none⟩ = some (.int .i64 0) := (blk_cell BK305.out 1).trans rfl;have hcz25_2 : w22.cell? ⟨gb305,2,none⟩ = some (.string (⟨#[]⟩ : ByteArray)) := (blk_cell BK305.out 2).trans rfl;have hcz25_3 : w22.cell? ⟨gb305,3,none⟩ = some (.slice none 0 0) := (blk_cell BK305.out 3).trans rfl;have hfz25_0 := blk_frozen BK305.out 0;have hfz25_1 := blk_frozen BK305.out 1;have hfz25_2 := blk_frozen BK305.out 2;have hfz25_3 := blk_frozen BK305.out 3;have hnb26 := NB301_0.out;have hnc26 := NB0_301.out;have hcz27_0 : w22.cell? ⟨gb301,0,none⟩ = some (.int .i64 0) := (blk_cell BK301.out 0).trans rfl;have hcz27_1 : w22.cell? ⟨gb301,1,none⟩ = some (.int .i64 0) := (blk_cell BK301.out 1).trans rfl;have hcz27_2 : w22.cell? ⟨gb301,2,none⟩ = some (.string (⟨#[]⟩ : ByteArray)) := (blk_cell BK301.out 2).trans rfl;have hcz27_3 : w22.cell? ⟨gb301,3,none⟩ = some (.slice none 0 0) := (blk_cell BK301.out 3).trans rfl;have hfz27_0 := blk_frozen BK301.out 0;have hfz27_1 := blk_frozen BK301.out 1;have hfz27_2 := blk_frozen BK301.out 2;have hfz27_3 := blk_frozen BK301.out 3))
     refine bodyPost_ret (results_cell_row rfl _ _ gb301 27 #[.int .i64 t302,.int .i64 0,.string t309,.slice none 0 0] (0,0) _ rfl (by (with_reducible repeat (first | refine blk_drewN ?_ _ | refine blk_drew ?_ | refine blk_alloc ?_ _));refine blk_put (cs := #[.int .i64 t302,.int .i64 0,.string t309,.slice none 0 0]) ?_ 3 _ rfl;(with_reducible repeat (first | refine blk_drewN ?_ _ | refine blk_drew ?_ | refine blk_alloc ?_ _));refine blk_put (cs := #[.int .i64 t302,.int .i64 0,.string (⟨#[]⟩ : ByteArray),.slice none 0 0]) ?_ 2 _ rfl;(with_reducible repeat (first | refine blk_drewN ?_ _ | refine blk_drew ?_ | refine blk_alloc ?_ _));refine blk_put (cs := #[.int .i64 t302,.int .i64 0,.string (⟨#[]⟩ : ByteArray),.slice none 0 0]) ?_ 1 _ rfl;(with_reducible repeat (first | refine blk_drewN ?_ _ | refine blk_drew ?_ | refine blk_alloc ?_ _));refine blk_put (cs := #[.int .i64 0,.int .i64 0,.string (⟨#[]⟩ : ByteArray),.slice none 0 0]) ?_ 0 _ rfl;(with_reducible repeat (first | refine blk_drewN ?_ _ | refine blk_drew ?_ | refine blk_alloc ?_ _));refine blk_far ?_ NB301_305.out _;(with_reducible repeat (first | refine blk_drewN ?_ _ | refine blk_drew ?_ | refine blk_alloc ?_ _));exact BK301.out) Try.underlying27 rfl (by kernel_rfl)) rfl ?_
     exact ⟨_,by first | rfl | (simp [*,errW_none,errW_some] <;> rfl),by first | exact Kd.R_nil _ _ _ _ _ | exact Kd.N_nil _ _ _ _ _ | exact Kd.V_nil _ _ _ _ _ | exact Kd.Q_nil _ _ _ _ _ | exact Kd.S_nil _ _ _ _ _,by repeat (first | (with_reducible first | exact HI0.out | apply IsS40.alloc | apply IsS40.drewN | apply IsS40.drew | apply IsS40.set_1 | apply IsS40.set_2 | refine IsS40.far ?_ NB0_301.out _ | refine IsS40.far ?_ NB0_305.out _) | exact HI0.out),by repeat (first | (with_reducible first | exact HB.out | apply below_alloc | apply pw_below_drewN | apply below_drew1 | refine below_set ?_ (IsS40.ge HI0.out) | refine below_set ?_ GE301.out | refine below_set ?_ GE305.out) | exact HB.out),by repeat (first | (with_reducible first | exact HK.out | apply KeepBut.set_ | apply keep_drewN | apply keep_drew | apply keep_alloc | refine keep_far ?_ GW301.out _ | refine keep_far ?_ GW305.out _) | exact HK.out)⟩
    ·rw [if_neg c20] at H
     have c20b0 : (t302 == 2) = false := beq_eq_false_iff_ne.mpr c20
     have c20b1 : (t302 != 2) = true := bne_iff_ne.mpr c20
     have HC28 := Aside0.mk H
     clear H
     go_upto_if 26 with (fail)
     go_cut [] (fun wc => ∃ (kq : Nat) (x1002_27 : Bool),Aside0 (impl_getter_term.j1 kq a1 s0_0 t303 x1002_27 t302 0 (⟨#[]⟩ : ByteArray) = some (r1,r2,r3,r4,r5,r6)) ∧ Aside0 (kq ≤ kj3) ∧ Aside0 (wc.heap[gb301]? = some (.cells #[.int .i64 0,.int .i64 0,.string (⟨#[]⟩ : ByteArray),(.slice none 0 0)] 27 (0,0))) ∧ Aside0 (wc.heap[gb305]? = some (.cells #[.int .i64 t302,.int .i64 0,.string (⟨#[]⟩ : ByteArray),(.slice none 0 0)] 27 (0,0))) ∧ Aside0 (IsS40 w0 wc g s0_0 t303 x1002_27) ∧ Aside0 (KeepBut w wc g none) ∧ Aside0 (Below w0.heap.size w0 wc))
     case first =>
      have H := HC28.out
      clear HC28
      by_cases c29 : a1 > 8
      ·rw [if_pos c29] at H
       have c29b0 : decide (8 < a1) = true := decide_eq_true c29
       clear c29
       (first | rw [c29b0] | (simp only [i64_w,i32_w];rw [c29b0]) | (simp only [c29b2,Bool.not_true,Bool.not_false]) | skip)
       have H' := Aside0.mk H
       clear H
       obtain ⟨ASz30_0,cSz30_0,HGz30,hgz30,⟨HSz30_0,HLz30_0⟩⟩ := HI0.out
       have hcz30_0 := cellS40_0 HGz30
       have hcz30_1 := cellS40_1 HGz30
       have hcz30_2 := cellS40_2 HGz30
       have hfz30_1 := blk_frozen HGz30 1
       have hfz30_2 := blk_frozen HGz30 2
       clear HGz30 hgz30
       go_wp2
       go_meet
       case rel => exact ⟨_,(true),H',⟨by have := HJ3.out;first | omega | exact Nat.le_refl _⟩,⟨by (with_reducible repeat (first | refine blk_drewN ?_ _ | refine blk_drew ?_ | refine blk_alloc ?_ _));refine blk_far ?_ NB301_0.out _;(with_reducible repeat (first | refine blk_drewN ?_ _ | refine blk_drew ?_ | refine blk_alloc ?_ _));exact BK301.out⟩,⟨by (with_reducible repeat (first | refine blk_drewN ?_ _ | refine blk_drew ?_ | refine blk_alloc ?_ _));refine blk_far ?_ NB305_0.out _;(with_reducible repeat (first | refine blk_drewN ?_ _ | refine blk_drew ?_ | refine blk_alloc ?_ _));exact BK305.out⟩,⟨by repeat (first | (with_reducible first | exact HI0.out | apply IsS40.alloc | apply IsS40.drewN | apply IsS40.drew | apply IsS40.set_1 | apply IsS40.set_2 | refine IsS40.far ?_ NB0_301.out _ | refine IsS40.far ?_ NB0_305.out _) | exact HI0.out)⟩,⟨by repeat (first | (with_reducible first | exact HK.out | apply KeepBut.set_ | apply keep_drewN | apply keep_drew | apply keep_alloc | refine keep_far ?_ GW301.out _ | refine keep_far ?_ GW305.out _) | exact HK.out)⟩,⟨by repeat (first | (with_reducible first | exact HB.out | apply below_alloc | apply pw_below_drewN | apply below_drew1 | refine below_set ?_ (IsS40.ge HI0.out) | refine below_set ?_ GE301.out | refine below_set ?_ GE305.out) | exact HB.out)⟩⟩
      ·rw [if_neg c29] at H
       have c29b0 : decide (8 < a1) = false := decide_eq_false c29
       clear c29
       (first | rw [c29b0] | (simp only [i64_w,i32_w];rw [c29b0]) | (simp only [c29b2,Bool.not_true,Bool.not_false]) | skip)
       have H' := Aside0.mk H
       clear H
       go_wp2
       go_meet
       case rel => exact ⟨_,(t304),H',⟨by have := HJ3.out;first | omega | exact Nat.le_refl _⟩,⟨by (with_reducible repeat (first | refine blk_drewN ?_ _ | refine blk_drew ?_ | refine blk_alloc ?_ _));exact BK301.out⟩,⟨by (with_reducible repeat (first | refine blk_drewN ?_ _ | refine blk_drew ?_ | refine blk_alloc ?_ _));exact BK305.out⟩,⟨by repeat (first | (with_reducible first | exact HI0.out | apply IsS40.alloc | apply IsS40.drewN | apply IsS40.drew | apply IsS40.set_1 | apply IsS40.set_2 | refine IsS40.far ?_ NB0_301.out _ | refine IsS40.far ?_ NB0_305.out _) | exact HI0.out)⟩,⟨by repeat (first | (with_reducible first | exact HK.out | apply KeepBut.set_ | apply keep_drewN | apply keep_drew | apply keep_alloc | refine keep_far ?_ GW301.out _ | refine keep_far ?_ GW305.out _) | exact HK.out)⟩,⟨by repeat (first | (with_reducible first | exact HB.out | apply below_alloc | apply pw_below_drewN | apply below_drew1 | refine below_set ?_ (IsS40.ge HI0.out) | refine below_set ?_ GE301.out | refine below_set ?_ GE305.out) | exact HB.out)⟩⟩
     case rest =>
      clear HC28
      try clear c1
      try clear c2
      try clear p2
      try clear c8
      try clear c9
      try clear c11
      try clear c11b0
      try clear c11b1
      try clear c11b2
      try clear c12
      try clear c15
      try clear c16
      try clear c17
      try clear c18
      try clear c20
      try clear c20b0
      try clear c20b1
      try clear c23
      try clear c24
      try clear c26
      try clear c27
      try clear c29
      try clear c29b0
      try clear c29b2
      try clear hcz10_0
      try clear hcz10_1
      try clear hcz10_2
      try clear hcz10_3
      try clear hcz17_0
      try clear hcz17_1
      try clear hcz17_2
      try clear hcz17_3
      try clear hcz19_0
      try clear hcz19_1
      try clear hcz19_2
      try clear hcz19_3
      try clear hcz25_0
      try clear hcz25_1
      try clear hcz25_2
      try clear hcz25_3
      try clear hcz27_0
      try clear hcz27_1
      try clear hcz27_2
      try clear hcz27_3
      try clear hcz30_0
      try clear hcz30_1
      try clear hcz30_2
      try clear hfz10_0
      try clear hfz10_1
      try clear hfz10_2
      try clear hfz10_3
      try clear hfz17_0
      try clear hfz17_1
      try clear hfz17_2
      try clear hfz17_3
      try clear hfz19_0
      try clear hfz19_1
      try clear hfz19_2
      try clear hfz19_3
      try clear hfz25_0
      try clear hfz25_1
      try clear hfz25_2
      try clear hfz25_3
      try clear hfz27_0
      try clear hfz27_1
      try clear hfz27_2
      try clear hfz27_3
      try clear hfz30_1
      try clear hfz30_2
      try clear p2
      try clear BK301
      try clear BK305
      try clear HI0
      try clear HK
      try clear HB
      obtain ⟨kq,x1002_27,HA,HJ27,BK301,BK305,HI0,HK,HB⟩ := hcut
      cases kq with
      | zero => exact absurd HA.out (by simp [impl_getter_term.j1])
      | succ kj27 =>
       have H := HA.out
       clear HA
       simp only [impl_getter_term.j1] at H
       replace H := Option.bind_eq_some_iff.mp H
       obtain ⟨⟨t312,t313,t314⟩,A310,H⟩ := H
       replace H : (impl_getter_term.l0 kj27 a1 t312 0 s0_0 t313 t314 t302 0 (⟨#[]⟩ : ByteArray) ([] : List (S27))) = some (r1,r2,r3,r4,r5,r6) := H
       have A31 := Aside0.mk A310
       clear A310
       have H' := Aside0.mk H
       clear H
       go_wp2_with (first | ((with_reducible refine gate_callee (f := 28) rfl ?_);refine goesL_ (some 31) rfl rfl Try.func28 (by kernel_rfl) rfl #[.pointer (some ⟨g,0,none⟩),.int .i64 60] rfl (by (try simp only [List.map_toArray,List.map_cons,List.map_nil]);first | done | rfl | (simp only [List.length_drop,List.length_take];rfl)) ?_;(with_reducible refine (impl_getter_count.calls kj27 g s0_0 t303 x1002_27 60 t312 t313 t314 w0 _ ?side1 ?side2 A31.out).mono ?_);(case side1 => repeat (first | (with_reducible first | exact HI0.out | apply IsS40.alloc | apply IsS40.drewN | apply IsS40.drew | apply IsS40.set_1 | apply IsS40.set_2 | refine IsS40.far ?_ NB0_301.out _ | refine IsS40.far ?_ NB0_305.out _) | exact HI0.out));(case side2 => repeat (first | (with_reducible first | exact HB.out | apply below_alloc | apply pw_below_drewN | apply below_drew1 | refine below_set ?_ (IsS40.ge HI0.out) | refine below_set ?_ GE301.out | refine below_set ?_ GE305.out) | exact HB.out));rintro e w32 ⟨rfl,hi,hb,hk⟩;refine ⟨_,rfl,?_⟩;have n0_ := Aside0.mk (KeepBut.blk hk (g' := gb301) (o := .cells #[.int .i64 0,.int .i64 0,.string (⟨#[]⟩ : ByteArray),.slice none 0 0] 27 (0,0)) (by (with_reducible repeat (first | refine blk_drewN ?_ _ | refine blk_drew ?_ | refine blk_alloc ?_ _));exact BK301.out) NB301_0.out (by simp));have n1_ := Aside0.mk (KeepBut.blk hk (g' := gb305) (o := .cells #[.int .i64 t302,.int .i64 0,.string (⟨#[]⟩ : ByteArray),.slice none 0 0] 27 (0,0)) (by (with_reducible repeat (first | refine blk_drewN ?_ _ | refine blk_drew ?_ | refine blk_alloc ?_ _));exact BK305.out) NB305_0.out (by simp));have n2_ := Aside0.mk (KeepBut.trans (by repeat (first | (with_reducible first | exact HK.out | apply KeepBut.set_ | apply keep_drewN | apply keep_drew | apply keep_alloc | refine keep_far ?_ GW301.out _ | refine keep_far ?_ GW305.out _) | exact HK.out)) hk (.inl rfl));have n3_ := Aside0.mk (hb);have n4_ := Aside0.mk (hi);clear BK301;clear BK305;clear HK;clear HB;clear HI0;have BK301 := n0_;have BK305 := n1_;have HK := n2_;have HB := n3_;have HI0 := n4_;clear n0_ n1_ n2_ n3_ n4_;(try clear hb);(try clear hb2);(try clear hk);(try clear hi)))
       go_loopg [32] kj27 (fun kq v32 w' => ∃ (x32_3 : Int) (x1001_3 : Int) (x1002_3 : Bool) (x306003_3 : List (S27)) (u306003 : Value),v32 = .int .i64 x32_3 ∧ Aside0 (impl_getter_term.l0 kq a1 t312 x32_3 s0_0 x1001_3 x1002_3 t302 0 (⟨#[]⟩ : ByteArray) x306003_3 = some (r1,r2,r3,r4,r5,r6)) ∧ Aside0 (kq ≤ kj27) ∧ Aside0 (Kd.R k27 27 w' w.heap.size (fun k_ => k_ ≠ gb301 ∧ k_ ≠ gb305) u306003 x306003_3) ∧ Aside0 (w'.heap[gb301]? = some (.cells #[.int .i64 0,.int .i64 0,.string (⟨#[]⟩ : ByteArray),(.slice none 0 0)] 27 (0,0))) ∧ Aside0 (w'.heap[gb305]? = some (.cells #[.int .i64 t302,.int .i64 0,.string (⟨#[]⟩ : ByteArray),u306003] 27 (0,0))) ∧ Aside0 (IsS40 w0 w' g s0_0 x1001_3 x1002_3) ∧ Aside0 (KeepBut w w' g none) ∧ Aside0 (Below w0.heap.size w0 w'))
       case atStart => exact ⟨(0),(t313),(t314),(([] : List (S27))),(.slice none 0 0),(by first | rfl | (simp;done) | (simp [*];done)),H',⟨Nat.le_refl _⟩,⟨by first | exact Kd.R_nil _ _ _ _ _ | exact Kd.N_nil _ _ _ _ _ | exact Kd.V_nil _ _ _ _ _ | exact Kd.Q_nil _ _ _ _ _ | exact Kd.S_nil _ _ _ _ _⟩,⟨by (with_reducible repeat (first | refine blk_drewN ?_ _ | refine blk_drew ?_ | refine blk_alloc ?_ _));exact BK301.out⟩,⟨by (with_reducible repeat (first | refine blk_drewN ?_ _ | refine blk_drew ?_ | refine blk_alloc ?_ _));exact BK305.out⟩,⟨by repeat (first | (with_reducible first | exact HI0.out | apply IsS40.alloc | apply IsS40.drewN | apply IsS40.drew | apply IsS40.set_1 | apply IsS40.set_2 | refine IsS40.far ?_ NB0_301.out _ | refine IsS40.far ?_ NB0_305.out _) | exact HI0.out)⟩,⟨by repeat (first | (with_reducible first | exact HK.out | apply KeepBut.set_ | apply keep_drewN | apply keep_drew | apply keep_alloc | refine keep_far ?_ GW301.out _ | refine keep_far ?_ GW305.out _) | exact HK.out)⟩,⟨by repeat (first | (with_reducible first | exact HB.out | apply below_alloc | apply pw_below_drewN | apply below_drew1 | refine below_set ?_ (IsS40.ge HI0.out) | refine below_set ?_ GE301.out | refine below_set ?_ GE305.out) | exact HB.out)⟩⟩
       case round =>
        clear H'
        try clear c1
        try clear c2
        try clear p2
        try clear c8
        try clear c9
        try clear c11
        try clear c11b0
        try clear c11b1
        try clear c11b2
        try clear c12
        try clear c15
        try clear c16
        try clear c17
        try clear c18
        try clear c20
        try clear c20b0
        try clear c20b1
        try clear c23
        try clear c24
        try clear c26
        try clear c27
        try clear c28
        try clear c29
        try clear c29b0
        try clear c29b2
        try clear hcz10_0
        try clear hcz10_1
        try clear hcz10_2
        try clear hcz10_3
        try clear hcz17_0
        try clear hcz17_1
        try clear hcz17_2
        try clear hcz17_3
        try clear hcz19_0
        try clear hcz19_1
        try clear hcz19_2
        try clear hcz19_3
        try clear hcz25_0
        try clear hcz25_1
        try clear hcz25_2
        try clear hcz25_3
        try clear hcz27_0
        try clear hcz27_1
        try clear hcz27_2
        try clear hcz27_3
        try clear hcz30_0
        try clear hcz30_1
        try clear hcz30_2
        try clear hfz10_0
        try clear hfz10_1
        try clear hfz10_2
        try clear hfz10_3
        try clear hfz17_0
        try clear hfz17_1
        try clear hfz17_2
        try clear hfz17_3
        try clear hfz19_0
        try clear hfz19_1
        try clear hfz19_2
        try clear hfz19_3
        try clear hfz25_0
        try clear hfz25_1
        try clear hfz25_2
        try clear hfz25_3
        try clear hfz27_0
        try clear hfz27_1
        try clear hfz27_2
        try clear hfz27_3
        try clear hfz30_1
        try clear hfz30_2
        try clear p2
        try clear HO_306003
        try clear BK301
        try clear BK305
        try clear HI0
        try clear HK
        try clear HB
        obtain ⟨x32_3,x1001_3,x1002_3,x306003_3,u306003,rfl,HA,HK3,HO_306003,BK301,BK305,HI0,HK,HB⟩ := hrel
        cases gk with
        | zero => exact absurd HA.out (by simp [impl_getter_term.l0])
        | succ k3 =>
         have H := HA.out
         clear HA
         simp only [impl_getter_term.l0] at H
         by_cases c33 : x32_3 < t312
         ·rw [if_pos c33] at H
          have c33b0 : decide (x32_3 < t312) = true := decide_eq_true c33
          clear c33
          by_cases c34 : x1002_3 = true
          ·subst c34
           have H1 : (some (t302,0,(⟨#[]⟩ : ByteArray),x306003_3,x1001_3,true)) = some (r1,r2,r3,r4,r5,r6) := by rw [if_pos rfl] at H;exact H
           clear H
           have H := H1
           clear H1
           simp only [Option.some.injEq,Prod.mk.injEq] at H
           obtain ⟨rfl,rfl,rfl,rfl,rfl,rfl⟩ := H
           obtain ⟨ASz35_0,cSz35_0,HGz35,hgz35,⟨HSz35_0,HLz35_0⟩⟩ := HI0.out
           have hcz35_0 := cellS40_0 HGz35
           have hcz35_1 := cellS40_1 HGz35
           have hcz35_2 := cellS40_2 HGz35
           have hfz35_1 := blk_frozen HGz35 1
           have hfz35_2 := blk_frozen HGz35 2
           clear HGz35 hgz35
           have hnb36 := NB305_301.out
           have hnc36 := NB301_305.out
           have hnb37 := NB305_0.out
           have hnc37 := NB0_305.out
           have hcz38_0 : wr.cell? ⟨gb305,0,none⟩ = some (.int .i64 t302) := (blk_cell BK305.out 0).trans rfl
           have hcz38_1 : wr.cell? ⟨gb305,1,none⟩ = some (.int .i64 0) := (blk_cell BK305.out 1).trans rfl
           have hcz38_2 : wr.cell? ⟨gb305,2,none⟩ = some (.string (⟨#[]⟩ : ByteArray)) := (blk_cell BK305.out 2).trans rfl
           have hcz38_3 : wr.cell? ⟨gb305,3,none⟩ = some (u306003) := (blk_cell BK305.out 3).trans rfl
           have hfz38_0 := blk_frozen BK305.out 0
           have hfz38_1 := blk_frozen BK305.out 1
           have hfz38_2 := blk_frozen BK305.out 2
           have hfz38_3 := blk_frozen BK305.out 3
           have hnb39 := NB301_0.out
           have hnc39 := NB0_301.out
           have hcz40_0 : wr.cell? ⟨gb301,0,none⟩ = some (.int .i64 0) := (blk_cell BK301.out 0).trans rfl
           have hcz40_1 : wr.cell? ⟨gb301,1,none⟩ = some (.int .i64 0) := (blk_cell BK301.out 1).trans rfl
           have hcz40_2 : wr.cell? ⟨gb301,2,none⟩ = some (.string (⟨#[]⟩ : ByteArray)) := (blk_cell BK301.out 2).trans rfl
           have hcz40_3 : wr.cell? ⟨gb301,3,none⟩ = some (.slice none 0 0) := (blk_cell BK301.out 3).trans rfl
           have hfz40_0 := blk_frozen BK301.out 0
           have hfz40_1 := blk_frozen BK301.out 1
           have hfz40_2 := blk_frozen BK301.out 2
           have hfz40_3 := blk_frozen BK301.out 3
           obtain ⟨Ao41,co41,eo41⟩ := Kd.R_slice HO_306003.out
           subst eo41
           go_wp2
           refine bodyPost_ret (results_cell_row rfl _ _ gb301 27 #[.int .i64 t302,.int .i64 0,.string (⟨#[]⟩ : ByteArray),.slice Ao41 x306003_3.length co41] (0,0) _ rfl (by (with_reducible repeat (first | refine blk_drewN ?_ _ | refine blk_drew ?_ | refine blk_alloc ?_ _));refine blk_put (cs := #[.int .i64 t302,.int .i64 0,.string (⟨#[]⟩ : ByteArray),.slice none 0 0]) ?_ 3 _ rfl;(with_reducible repeat (first | refine blk_drewN ?_ _ | refine blk_drew ?_ | refine blk_alloc ?_ _));refine blk_put (cs := #[.int .i64 t302,.int .i64 0,.string (⟨#[]⟩ : ByteArray),.slice none 0 0]) ?_ 2 _ rfl;(with_reducible repeat (first | refine blk_drewN ?_ _ | refine blk_drew ?_ | refine blk_alloc ?_ _));refine blk_put (cs := #[.int .i64 t302,.int .i64 0,.string (⟨#[]⟩ : ByteArray),.slice none 0 0]) ?_ 1 _ rfl;(with_reducible repeat (first | refine blk_drewN ?_ _ | refine blk_drew ?_ | refine blk_alloc ?_ _));refine blk_put (cs := #[.int .i64 0,.int .i64 0,.string (⟨#[]⟩ : ByteArray),.slice none 0 0]) ?_ 0 _ rfl;(with_reducible repeat (first | refine blk_drewN ?_ _ | refine blk_drew ?_ | refine blk_alloc ?_ _));exact BK301.out) Try.underlying27 rfl (by kernel_rfl)) rfl ?_
           exact ⟨_,by first | rfl | (simp [*,errW_none,errW_some] <;> rfl),by (with_reducible repeat (first | apply Kd.R_alloc | apply Kd.R_drewN | apply Kd.R_drew));exact Kd.R_mono (Kd.R_far (p := ⟨gb301,3,none⟩) (Kd.R_far (p := ⟨gb301,2,none⟩) (Kd.R_far (p := ⟨gb301,1,none⟩) (Kd.R_far (p := ⟨gb301,0,none⟩) (Kd.R_mono HO_306003.out (fun k_ hk => (⟨hk,hk.1⟩ : _ ∧ k_ ≠ gb301))) (fun _ hk => hk.2) (.int .i64 t302)) (fun _ hk => hk.2) (.int .i64 0)) (fun _ hk => hk.2) (.string (⟨#[]⟩ : ByteArray))) (fun _ hk => hk.2) (.slice Ao41 x306003_3.length co41)) (fun _ hk => trivial),by repeat (first | (with_reducible first | exact HI0.out | apply IsS40.alloc | apply IsS40.drewN | apply IsS40.drew | apply IsS40.set_1 | apply IsS40.set_2 | refine IsS40.far ?_ NB0_301.out _ | refine IsS40.far ?_ NB0_305.out _) | exact HI0.out),by repeat (first | (with_reducible first | exact HB.out | apply below_alloc | apply pw_below_drewN | apply below_drew1 | refine below_set ?_ (IsS40.ge HI0.out) | refine below_set ?_ GE301.out | refine below_set ?_ GE305.out) | exact HB.out),by repeat (first | (with_reducible first | exact HK.out | apply KeepBut.set_ | apply keep_drewN | apply keep_drew | apply keep_alloc | refine keep_far ?_ GW301.out _ | refine keep_far ?_ GW305.out _) | exact HK.out)⟩
          ·replace c34 := Bool.eq_false_iff.mpr c34
           subst c34
           have H1 : ((impl_getter_term.f k3 s0_0 x1001_3 false (wrap64 (a1 + 1))).bind fun bt315 => (if x306003_3.length < 2513169434916 then (impl_getter_term.l0 k3 a1 t312 (wrap64 (x32_3 + 1)) s0_0 bt315.2.2.2.2.1 bt315.2.2.2.2.2 t302 0 (⟨#[]⟩ : ByteArray) (x306003_3 ++ [(⟨bt315.1,bt315.2.1,bt315.2.2.1,bt315.2.2.2.1⟩ : S27)])) else (none))) = some (r1,r2,r3,r4,r5,r6) := by rw [if_neg (show ¬ (false = true) by decide)] at H;exact H
           clear H
           have H := H1
           clear H1
           replace H := Option.bind_eq_some_iff.mp H
           obtain ⟨⟨t315,t316,t317,t318,t321,t322⟩,A420,H⟩ := H
           replace H : (if x306003_3.length < 2513169434916 then (impl_getter_term.l0 k3 a1 t312 (wrap64 (x32_3 + 1)) s0_0 t321 t322 t302 0 (⟨#[]⟩ : ByteArray) (x306003_3 ++ [(⟨t315,t316,t317,t318⟩ : S27)])) else (none)) = some (r1,r2,r3,r4,r5,r6) := H
           have A42 := Aside0.mk A420
           clear A420
           by_cases c43 : x306003_3.length < 2513169434916
           ·rw [if_pos c43] at H
            have LMc43 := Aside0.mk c43
            clear c43
            obtain ⟨y324,hy324⟩ : ∃ y_ : List (S27),y_ = (x306003_3 ++ [(⟨t315,t316,t317,t318⟩ : S27)]) := ⟨_,rfl⟩
            replace H : (impl_getter_term.l0 k3 a1 t312 (wrap64 (x32_3 + 1)) s0_0 t321 t322 t302 0 (⟨#[]⟩ : ByteArray) y324) = some (r1,r2,r3,r4,r5,r6) := by first | (rw [hy324];with_reducible exact H) | (have H2_ := (Option.bind_some _ _).symm.trans H;rw [hy324];with_reducible exact H2_) | (have H2_ := (Option.bind_some _ _).symm.trans H;with_reducible exact H2_) | with_reducible exact H | (rw [hy324];exact H) | exact H
            have Ny324 := Aside0.mk hy324
            clear hy324
            have H' := Aside0.mk H
            clear H
            obtain ⟨ASz44_0,cSz44_0,HGz44,hgz44,⟨HSz44_0,HLz44_0⟩⟩ := HI0.out
            have hcz44_0 := cellS40_0 HGz44
            have hcz44_1 := cellS40_1 HGz44
            have hcz44_2 := cellS40_2 HGz44
            have hfz44_1 := blk_frozen HGz44 1
            have hfz44_2 := blk_frozen HGz44 2
            clear HGz44 hgz44
            go_wp2_with (first | ((with_reducible refine gate_callee (f := 17) rfl ?_);refine goesL_ (some 41) rfl rfl Try.func17 (by kernel_rfl) rfl #[.pointer (some ⟨g,0,none⟩),.int .i64 (wrap64 (a1 + 1))] rfl (by (try simp only [List.map_toArray,List.map_cons,List.map_nil]);first | done | rfl | (simp only [List.length_drop,List.length_take];rfl)) ?_;(with_reducible refine (ih k3 (by have := HJ3.out;have := HJ27.out;have := HK3.out;omega) g s0_0 x1001_3 false (wrap64 (a1 + 1)) t315 t316 t317 t318 t321 t322 w0 _ ?side1 ?side2 A42.out).mono ?_);(case side1 => repeat (first | (with_reducible first | exact HI0.out | apply IsS40.alloc | apply IsS40.drewN | apply IsS40.drew | apply IsS40.set_1 | apply IsS40.set_2 | refine IsS40.far ?_ NB0_301.out _ | refine IsS40.far ?_ NB0_305.out _) | exact HI0.out));(case side2 => repeat (first | (with_reducible first | exact HB.out | apply below_alloc | apply pw_below_drewN | apply below_drew1 | refine below_set ?_ (IsS40.ge HI0.out) | refine below_set ?_ GE301.out | refine below_set ?_ GE305.out) | exact HB.out));rintro e w45 ⟨v319,rfl,ho0,hi,hb,hk⟩;refine ⟨_,rfl,?_⟩;have n0_ := Aside0.mk (Kd.R_mono (Kd.R_told (Kd.R_oldK (IsS40.apart (show IsS40 w0 _ g s0_0 x1001_3 false from by repeat (first | (with_reducible first | exact HI0.out | apply IsS40.alloc | apply IsS40.drewN | apply IsS40.drew | apply IsS40.set_1 | apply IsS40.set_2 | refine IsS40.far ?_ NB0_301.out _ | refine IsS40.far ?_ NB0_305.out _) | exact HI0.out)) (by (with_reducible repeat (first | apply Kd.R_alloc | apply Kd.R_drewN | apply Kd.R_drew));exact HO_306003.out) (by decide)) hk) (Kd.R_base ho0)) (fun _ h_ => h_.1));have n1_ := Aside0.mk (KeepBut.blk hk (g' := gb301) (o := .cells #[.int .i64 0,.int .i64 0,.string (⟨#[]⟩ : ByteArray),.slice none 0 0] 27 (0,0)) (by (with_reducible repeat (first | refine blk_drewN ?_ _ | refine blk_drew ?_ | refine blk_alloc ?_ _));exact BK301.out) NB301_0.out (by simp));have n2_ := Aside0.mk (KeepBut.blk hk (g' := gb305) (o := .cells #[.int .i64 t302,.int .i64 0,.string (⟨#[]⟩ : ByteArray),u306003] 27 (0,0)) (by (with_reducible repeat (first | refine blk_drewN ?_ _ | refine blk_drew ?_ | refine blk_alloc ?_ _));exact BK305.out) NB305_0.out (by simp));have n3_ := Aside0.mk (Kd.R_lower (Kd.R_newB (Kd.R_newB (Kd.R_new' ho0 (Kd.R_lt (by (with_reducible repeat (first | apply Kd.R_alloc | apply Kd.R_drewN | apply Kd.R_drew));exact HO_306003.out))) (g := gb301) (o := .cells #[.int .i64 0,.int .i64 0,.string (⟨#[]⟩ : ByteArray),.slice none 0 0] 27 (0,0)) (by (with_reducible repeat (first | refine blk_drewN ?_ _ | refine blk_drew ?_ | refine blk_alloc ?_ _));exact BK301.out)) (g := gb305) (o := .cells #[.int .i64 t302,.int .i64 0,.string (⟨#[]⟩ : ByteArray),u306003] 27 (0,0)) (by (with_reducible repeat (first | refine blk_drewN ?_ _ | refine blk_drew ?_ | refine blk_alloc ?_ _));exact BK305.out)) (keep_size (w := w) (g := g) (row := none) (by repeat (first | (with_reducible first | exact HK.out | apply KeepBut.set_ | apply keep_drewN | apply keep_drew | apply keep_alloc | refine keep_far ?_ GW301.out _ | refine keep_far ?_ GW305.out _) | exact HK.out))));have n4_ := Aside0.mk (KeepBut.trans (by repeat (first | (with_reducible first | exact HK.out | apply KeepBut.set_ | apply keep_drewN | apply keep_drew | apply keep_alloc | refine keep_far ?_ GW301.out _ | refine keep_far ?_ GW305.out _) | exact HK.out)) hk (.inl rfl));have n5_ := Aside0.mk (hb);have n6_ := Aside0.mk (hi);clear HO_306003;clear BK301;clear BK305;clear HK;clear HB;clear HI0;have HO_306003 := n0_;have BK301 := n1_;have BK305 := n2_;have HO320 := n3_;have HK := n4_;have HB := n5_;have HI0 := n6_;clear n0_ n1_ n2_ n3_ n4_ n5_ n6_;(try clear hb);(try clear hb2);(try clear hk);(try clear hi);(try clear ho0)) | ((with_reducible refine gate_dst (N := 6) rfl ?_);refine box_event ?hg (N := 6) ?hd (cs := #[.int .i64 0,.int .i64 0,.string (⟨#[]⟩ : ByteArray),.slice none 0 0]) (t := 27) ?hr ?_;(case hd => rfl);(case hg => rfl);(case hr => first | (go_simp;done) | (go_simp;rfl));intro gb323 hg w46 hbox hb;have n0_ := Aside0.mk (Kd.R_below (Kd.R_elderB (by (with_reducible repeat (first | apply Kd.R_alloc | apply Kd.R_drewN | apply Kd.R_drew));exact HO_306003.out) gb323 (Nat.le_of_eq hg.symm)) hb);have n1_ := Aside0.mk (Kd.R_below (Kd.R_elderB (by (with_reducible repeat (first | apply Kd.R_alloc | apply Kd.R_drewN | apply Kd.R_drew));exact HO320.out) gb323 (Nat.le_of_eq hg.symm)) hb);have n2_ := Aside0.mk (blk_below (g := gb301) (o := .cells #[.int .i64 0,.int .i64 0,.string (⟨#[]⟩ : ByteArray),.slice none 0 0] 27 (0,0)) (by (with_reducible repeat (first | refine blk_drewN ?_ _ | refine blk_drew ?_ | refine blk_alloc ?_ _));exact BK301.out) hb);have n3_ := Aside0.mk (blk_below (g := gb305) (o := .cells #[.int .i64 t302,.int .i64 0,.string (⟨#[]⟩ : ByteArray),u306003] 27 (0,0)) (by (with_reducible repeat (first | refine blk_drewN ?_ _ | refine blk_drew ?_ | refine blk_alloc ?_ _));exact BK305.out) hb);have n4_ := Aside0.mk (IsS40.below (by repeat (first | (with_reducible first | exact HI0.out | apply IsS40.alloc | apply IsS40.drewN | apply IsS40.drew | apply IsS40.set_1 | apply IsS40.set_2 | refine IsS40.far ?_ NB0_301.out _ | refine IsS40.far ?_ NB0_305.out _) | exact HI0.out)) hb);have n5_ := Aside0.mk (KeepBut.trans (by repeat (first | (with_reducible first | exact HK.out | apply KeepBut.set_ | apply keep_drewN | apply keep_drew | apply keep_alloc | refine keep_far ?_ GW301.out _ | refine keep_far ?_ GW305.out _) | exact HK.out)) (KeepBut.of_below hb g none) (.inl rfl));have n6_ := Aside0.mk (below_step (by repeat (first | (with_reducible first | exact HB.out | apply below_alloc | apply pw_below_drewN | apply below_drew1 | refine below_set ?_ (IsS40.ge HI0.out) | refine below_set ?_ GE301.out | refine below_set ?_ GE305.out) | exact HB.out)) hb);have n7_ := Aside0.mk (hbox);have n8_ := Aside0.mk ((by rw [hg];exact (keep_size (w := w) (g := g) (row := none) (by repeat (first | (with_reducible first | exact HK.out | apply KeepBut.set_ | apply keep_drewN | apply keep_drew | apply keep_alloc | refine keep_far ?_ GW301.out _ | refine keep_far ?_ GW305.out _) | exact HK.out))) : w.heap.size ≤ gb323));have n9_ := Aside0.mk ((Nat.le_trans HW0.out (by rw [hg];exact (keep_size (w := w) (g := g) (row := none) (by repeat (first | (with_reducible first | exact HK.out | apply KeepBut.set_ | apply keep_drewN | apply keep_drew | apply keep_alloc | refine keep_far ?_ GW301.out _ | refine keep_far ?_ GW305.out _) | exact HK.out))) : w.heap.size ≤ gb323) : w0.heap.size ≤ gb323));have n10_ := Aside0.mk ((by rw [hg];exact Nat.ne_of_lt (blk_lt (g := gb301) (o := .cells #[.int .i64 0,.int .i64 0,.string (⟨#[]⟩ : ByteArray),.slice none 0 0] 27 (0,0)) (by (with_reducible repeat (first | refine blk_drewN ?_ _ | refine blk_drew ?_ | refine blk_alloc ?_ _));exact BK301.out)) : gb301 ≠ gb323));have n11_ := Aside0.mk ((by rw [hg];exact Nat.ne_of_gt (blk_lt (g := gb301) (o := .cells #[.int .i64 0,.int .i64 0,.string (⟨#[]⟩ : ByteArray),.slice none 0 0] 27 (0,0)) (by (with_reducible repeat (first | refine blk_drewN ?_ _ | refine blk_drew ?_ | refine blk_alloc ?_ _));exact BK301.out)) : gb323 ≠ gb301));have n12_ := Aside0.mk ((by rw [hg];exact Nat.ne_of_lt (blk_lt (g := gb305) (o := .cells #[.int .i64 t302,.int .i64 0,.string (⟨#[]⟩ : ByteArray),u306003] 27 (0,0)) (by (with_reducible repeat (first | refine blk_drewN ?_ _ | refine blk_drew ?_ | refine blk_alloc ?_ _));exact BK305.out)) : gb305 ≠ gb323));have n13_ := Aside0.mk ((by rw [hg];exact Nat.ne_of_gt (blk_lt (g := gb305) (o := .cells #[.int .i64 t302,.int .i64 0,.string (⟨#[]⟩ : ByteArray),u306003] 27 (0,0)) (by (with_reducible repeat (first | refine blk_drewN ?_ _ | refine blk_drew ?_ | refine blk_alloc ?_ _));exact BK305.out)) : gb323 ≠ gb305));have n14_ := Aside0.mk ((by rw [hg];exact Nat.ne_of_lt (IsS40.lt (show IsS40 w0 _ g s0_0 t321 t322 from by repeat (first | (with_reducible first | exact HI0.out | apply IsS40.alloc | apply IsS40.drewN | apply IsS40.drew | apply IsS40.set_1 | apply IsS40.set_2 | refine IsS40.far ?_ NB0_301.out _ | refine IsS40.far ?_ NB0_305.out _) | exact HI0.out))) : g ≠ gb323));have n15_ := Aside0.mk ((by rw [hg];exact Nat.ne_of_gt (IsS40.lt (show IsS40 w0 _ g s0_0 t321 t322 from by repeat (first | (with_reducible first | exact HI0.out | apply IsS40.alloc | apply IsS40.drewN | apply IsS40.drew | apply IsS40.set_1 | apply IsS40.set_2 | refine IsS40.far ?_ NB0_301.out _ | refine IsS40.far ?_ NB0_305.out _) | exact HI0.out))) : gb323 ≠ g));clear HO_306003;clear HO320;clear BK301;clear BK305;clear HI0;clear HK;clear HB;have HO_306003 := n0_;have HO320 := n1_;have BK301 := n2_;have BK305 := n3_;have HI0 := n4_;have HK := n5_;have HB := n6_;have BK323 := n7_;have GW323 := n8_;have GE323 := n9_;have NB301_323 := n10_;have NB323_301 := n11_;have NB305_323 := n12_;have NB323_305 := n13_;have NB0_323 := n14_;have NB323_0 := n15_;clear n0_ n1_ n2_ n3_ n4_ n5_ n6_ n7_ n8_ n9_ n10_ n11_ n12_ n13_ n14_ n15_;clear hb hbox hg;have hnb47 := NB323_301.out;have hnc47 := NB301_323.out;have hnb48 := NB323_305.out;have hnc48 := NB305_323.out;have hnb49 := NB323_0.out;have hnc49 := NB0_323.out;have hcz50_0 : w46.cell? ⟨gb323,0,none⟩ = some (.int .i64 0) := (blk_cell BK323.out 0).trans rfl;have hcz50_1 : w46.cell? ⟨gb323,1,none⟩ = some (.int .i64 0) := (blk_cell BK323.out 1).trans rfl;have hcz50_2 : w46.cell? ⟨gb323,2,none⟩ = some (.string (⟨#[]⟩ : ByteArray)) := (blk_cell BK323.out 2).trans rfl;have hcz50_3 : w46.cell? ⟨gb323,3,none⟩ = some (.slice none 0 0) := (blk_cell BK323.out 3).trans rfl;have hfz50_0 := blk_frozen BK323.out 0;have hfz50_1 := blk_frozen BK323.out 1;have hfz50_2 := blk_frozen BK323.out 2;have hfz50_3 := blk_frozen BK323.out 3;obtain ⟨Ao51,co51,eo51⟩ := Kd.R_slice HO320.out;subst eo51) | ((with_reducible refine gate_store (t := 27) (p := 6) rfl ?_);refine store_event (t := 27) (p := 6) (v := ?vo_w52) (w1 := ((((w46.setCell ⟨gb323,0,none⟩ (.int .i64 t315)).setCell ⟨gb323,1,none⟩ (.int .i64 t316)).setCell ⟨gb323,2,none⟩ (.string t317)).setCell ⟨gb323,3,none⟩ (.slice Ao51 t318.length co51))) ?hg ?ho ?hn ?hr ?_;(case ho => rfl);(case hg => rfl);(case hn => rfl);(case hr => first | (go_simp;done) | (go_simp;rfl));intro w52 hw;have n0_ : Aside0 (Kd.R k27 27 w52 w.heap.size (fun k_ => some k_ ≠ (.slice Ao51 t318.length co51 : Value).ownBlock ∧ k_ ≠ gb301 ∧ k_ ≠ gb305 ∧ k_ ≠ gb323) u306003 x306003_3) := ⟨(by rw [hw];exact (by (with_reducible repeat (first | apply Kd.R_alloc | apply Kd.R_drewN | apply Kd.R_drew));exact Kd.R_mono (Kd.R_far (p := ⟨gb323,3,none⟩) (Kd.R_far (p := ⟨gb323,2,none⟩) (Kd.R_far (p := ⟨gb323,1,none⟩) (Kd.R_far (p := ⟨gb323,0,none⟩) (Kd.R_mono HO_306003.out (fun k_ hk => (⟨hk,hk.2⟩ : _ ∧ k_ ≠ gb323))) (fun _ hk => hk.2) (.int .i64 t315)) (fun _ hk => hk.2) (.int .i64 t316)) (fun _ hk => hk.2) (.string t317)) (fun _ hk => hk.2) (.slice Ao51 t318.length co51)) (fun _ hk => ⟨hk.1.1.2,⟨hk.1.1.1.1,⟨hk.1.1.1.2,hk.1.2⟩⟩⟩)))⟩;have n1_ : Aside0 (Kd.R k27 27 w52 w.heap.size (fun k_ => some k_ ≠ (u306003 : Value).ownBlock ∧ k_ ≠ gb301 ∧ k_ ≠ gb305 ∧ k_ ≠ gb323) (.slice Ao51 t318.length co51) t318) := ⟨(by rw [hw];exact (by (with_reducible repeat (first | apply Kd.R_alloc | apply Kd.R_drewN | apply Kd.R_drew));exact Kd.R_mono (Kd.R_far (p := ⟨gb323,3,none⟩) (Kd.R_far (p := ⟨gb323,2,none⟩) (Kd.R_far (p := ⟨gb323,1,none⟩) (Kd.R_far (p := ⟨gb323,0,none⟩) (Kd.R_mono HO320.out (fun k_ hk => (⟨hk,hk.2⟩ : _ ∧ k_ ≠ gb323))) (fun _ hk => hk.2) (.int .i64 t315)) (fun _ hk => hk.2) (.int .i64 t316)) (fun _ hk => hk.2) (.string t317)) (fun _ hk => hk.2) (.slice Ao51 t318.length co51)) (fun _ hk => ⟨hk.1.1.1.1.2,⟨hk.1.1.1.2,⟨hk.1.1.2,hk.1.2⟩⟩⟩)))⟩;have n2_ : Aside0 (w52.heap[gb301]? = some (.cells #[.int .i64 0,.int .i64 0,.string (⟨#[]⟩ : ByteArray),.slice none 0 0] 27 (0,0))) := ⟨(by rw [hw];exact (by (with_reducible repeat (first | refine blk_drewN ?_ _ | refine blk_drew ?_ | refine blk_alloc ?_ _));refine blk_far ?_ NB301_323.out _;(with_reducible repeat (first | refine blk_drewN ?_ _ | refine blk_drew ?_ | refine blk_alloc ?_ _));refine blk_far ?_ NB301_323.out _;(with_reducible repeat (first | refine blk_drewN ?_ _ | refine blk_drew ?_ | refine blk_alloc ?_ _));refine blk_far ?_ NB301_323.out _;(with_reducible repeat (first | refine blk_drewN ?_ _ | refine blk_drew ?_ | refine blk_alloc ?_ _));refine blk_far ?_ NB301_323.out _;(with_reducible repeat (first | refine blk_drewN ?_ _ | refine blk_drew ?_ | refine blk_alloc ?_ _));exact BK301.out))⟩;have n3_ : Aside0 (w52.heap[gb305]? = some (.cells #[.int .i64 t302,.int .i64 0,.string (⟨#[]⟩ : ByteArray),u306003] 27 (0,0))) := ⟨(by rw [hw];exact (by (with_reducible repeat (first | refine blk_drewN ?_ _ | refine blk_drew ?_ | refine blk_alloc ?_ _));refine blk_far ?_ NB305_323.out _;(with_reducible repeat (first | refine blk_drewN ?_ _ | refine blk_drew ?_ | refine blk_alloc ?_ _));refine blk_far ?_ NB305_323.out _;(with_reducible repeat (first | refine blk_drewN ?_ _ | refine blk_drew ?_ | refine blk_alloc ?_ _));refine blk_far ?_ NB305_323.out _;(with_reducible repeat (first | refine blk_drewN ?_ _ | refine blk_drew ?_ | refine blk_alloc ?_ _));refine blk_far ?_ NB305_323.out _;(with_reducible repeat (first | refine blk_drewN ?_ _ | refine blk_drew ?_ | refine blk_alloc ?_ _));exact BK305.out))⟩;have n4_ : Aside0 (w52.heap[gb323]? = some (.cells #[.int .i64 t315,.int .i64 t316,.string t317,.slice Ao51 t318.length co51] 27 (0,0))) := ⟨(by rw [hw];exact (by (with_reducible repeat (first | refine blk_drewN ?_ _ | refine blk_drew ?_ | refine blk_alloc ?_ _));refine blk_put (cs := #[.int .i64 t315,.int .i64 t316,.string t317,.slice none 0 0]) ?_ 3 _ rfl;(with_reducible repeat (first | refine blk_drewN ?_ _ | refine blk_drew ?_ | refine blk_alloc ?_ _));refine blk_put (cs := #[.int .i64 t315,.int .i64 t316,.string (⟨#[]⟩ : ByteArray),.slice none 0 0]) ?_ 2 _ rfl;(with_reducible repeat (first | refine blk_drewN ?_ _ | refine blk_drew ?_ | refine blk_alloc ?_ _));refine blk_put (cs := #[.int .i64 t315,.int .i64 0,.string (⟨#[]⟩ : ByteArray),.slice none 0 0]) ?_ 1 _ rfl;(with_reducible repeat (first | refine blk_drewN ?_ _ | refine blk_drew ?_ | refine blk_alloc ?_ _));refine blk_put (cs := #[.int .i64 0,.int .i64 0,.string (⟨#[]⟩ : ByteArray),.slice none 0 0]) ?_ 0 _ rfl;(with_reducible repeat (first | refine blk_drewN ?_ _ | refine blk_drew ?_ | refine blk_alloc ?_ _));exact BK323.out))⟩;have n5_ : Aside0 (IsS40 w0 w52 g s0_0 t321 t322) := ⟨(by rw [hw];exact (by repeat (first | (with_reducible first | exact HI0.out | apply IsS40.alloc | apply IsS40.drewN | apply IsS40.drew | apply IsS40.set_1 | apply IsS40.set_2 | refine IsS40.far ?_ NB0_301.out _ | refine IsS40.far ?_ NB0_305.out _ | refine IsS40.far ?_ NB0_323.out _) | exact HI0.out)))⟩;have n6_ : Aside0 (KeepBut w w52 g none) := ⟨(by rw [hw];exact (by repeat (first | (with_reducible first | exact HK.out | apply KeepBut.set_ | apply keep_drewN | apply keep_drew | apply keep_alloc | refine keep_far ?_ GW301.out _ | refine keep_far ?_ GW305.out _ | refine keep_far ?_ GW323.out _) | exact HK.out)))⟩;have n7_ : Aside0 (Below w0.heap.size w0 w52) := ⟨(by rw [hw];exact (by repeat (first | (with_reducible first | exact HB.out | apply below_alloc | apply pw_below_drewN | apply below_drew1 | refine below_set ?_ (IsS40.ge HI0.out) | refine below_set ?_ GE301.out | refine below_set ?_ GE305.out | refine below_set ?_ GE323.out) | exact HB.out)))⟩;clear hw;clear HO_306003;clear HO320;clear BK301;clear BK305;clear BK323;clear HI0;clear HK;clear HB;have HO_306003 := n0_;have HO320 := n1_;have BK301 := n2_;have BK305 := n3_;have BK323 := n4_;have HI0 := n5_;have HK := n6_;have HB := n7_;clear n0_ n1_ n2_ n3_ n4_ n5_ n6_ n7_;have hnb53 := NB305_301.out;have hnc53 := NB301_305.out;have hnb54 := NB305_0.out;have hnc54 := NB0_305.out;have hcz55_0 : w52.cell? ⟨gb305,0,none⟩ = some (.int .i64 t302) := (blk_cell BK305.out 0).trans rfl;have hcz55_1 : w52.cell? ⟨gb305,1,none⟩ = some (.int .i64 0) := (blk_cell BK305.out 1).trans rfl;have hcz55_2 : w52.cell? ⟨gb305,2,none⟩ = some (.string (⟨#[]⟩ : ByteArray)) := (blk_cell BK305.out 2).trans rfl;have hcz55_3 : w52.cell? ⟨gb305,3,none⟩ = some (u306003) := (blk_cell BK305.out 3).trans rfl;have hfz55_0 := blk_frozen BK305.out 0;have hfz55_1 := blk_frozen BK305.out 1;have hfz55_2 := blk_frozen BK305.out 2;have hfz55_3 := blk_frozen BK305.out 3;have hcz56_0 : w52.cell? ⟨gb323,0,none⟩ = some (.int .i64 t315) := (blk_cell BK323.out 0).trans rfl;have hcz56_1 : w52.cell? ⟨gb323,1,none⟩ = some (.int .i64 t316) := (blk_cell BK323.out 1).trans rfl;have hcz56_2 : w52.cell? ⟨gb323,2,none⟩ = some (.string t317) := (blk_cell BK323.out 2).trans rfl;have hcz56_3 : w52.cell? ⟨gb323,3,none⟩ = some (.slice Ao51 t318.length co51) := (blk_cell BK323.out 3).trans rfl;have hfz56_0 := blk_frozen BK323.out 0;have hfz56_1 := blk_frozen BK323.out 1;have hfz56_2 := blk_frozen BK323.out 2;have hfz56_3 := blk_frozen BK323.out 3) | ((with_reducible refine gate_builtin (b := .append) (xs := #[.tmp 43,.tmp 45]) rfl ?_);at_builtin;refine Kd.R_append k27 w.heap.size rfl (.tmp 43) (.tmp 45) 25 27 (.agg #[(.int .i64 0),(.int .i64 0),(.string ⟨#[]⟩),(.slice none 0 0)]) 56 rfl Try.underlying25 info27 rfl (by decide) (by omega) u306003 x306003_3 (⟨t315,t316,t317,t318⟩ : S27) [.int .i64 t315,.int .i64 t316,.string t317,.slice Ao51 t318.length co51] (fun k_ => k_ ≠ gb301 ∧ k_ ≠ gb305 ∧ k_ ≠ gb323) (fun k_ => ((fun k_ => k_ ≠ gb301 ∧ k_ ≠ gb305 ∧ k_ ≠ gb323)) k_ ∧ some k_ ≠ (u306003 : Value).ownBlock) rfl rfl ?aP (fun _ hk => hk) ?aF ?aO (Below.refl _ _) ?aS ?aL ?_;(case aP => exact k27_mkM _ _ _ (⟨t315,t316,t317,t318⟩ : S27) (Kd.R_mono (HO320.out) (fun k_ hk => ⟨⟨hk.2.1,⟨hk.2.2.1,hk.2.2.2⟩⟩,hk.1⟩)));(case aF => exact (fun k_ hk => ⟨Kd.freshB (g := gb301) (o := .cells #[.int .i64 0,.int .i64 0,.string (⟨#[]⟩ : ByteArray),.slice none 0 0] 27 (0,0)) (by (with_reducible repeat (first | refine blk_drewN ?_ _ | refine blk_drew ?_ | refine blk_alloc ?_ _));exact BK301.out) k_ hk,Kd.freshB (g := gb305) (o := .cells #[.int .i64 t302,.int .i64 0,.string (⟨#[]⟩ : ByteArray),u306003] 27 (0,0)) (by (with_reducible repeat (first | refine blk_drewN ?_ _ | refine blk_drew ?_ | refine blk_alloc ?_ _));exact BK305.out) k_ hk,Kd.freshB (g := gb323) (o := .cells #[.int .i64 t315,.int .i64 t316,.string t317,.slice Ao51 t318.length co51] 27 (0,0)) (by (with_reducible repeat (first | refine blk_drewN ?_ _ | refine blk_drew ?_ | refine blk_alloc ?_ _));exact BK323.out) k_ hk⟩));(case aO => exact (by (with_reducible repeat (first | apply Kd.R_alloc | apply Kd.R_drewN | apply Kd.R_drew));exact Kd.R_mono HO_306003.out (fun _ hk => ⟨hk.2.1,⟨hk.2.2.1,hk.2.2.2⟩⟩)));(case aS => exact (keep_size (w := w) (g := g) (row := none) (by repeat (first | (with_reducible first | exact HK.out | apply KeepBut.set_ | apply keep_drewN | apply keep_drew | apply keep_alloc | refine keep_far ?_ GW301.out _ | refine keep_far ?_ GW305.out _ | refine keep_far ?_ GW323.out _) | exact HK.out))));(case aL => have := LMc43.out;omega);intro v325 w57 ho hb hg hat;rw [← Ny324.out] at ho;have n0_ := Aside0.mk (blk_grown (g := gb301) (o := .cells #[.int .i64 0,.int .i64 0,.string (⟨#[]⟩ : ByteArray),.slice none 0 0] 27 (0,0)) (by (with_reducible repeat (first | refine blk_drewN ?_ _ | refine blk_drew ?_ | refine blk_alloc ?_ _));exact BK301.out) hg (Kd.R_away HO_306003.out (fun _ hk => hk.2.1)));have n1_ := Aside0.mk (blk_grown (g := gb305) (o := .cells #[.int .i64 t302,.int .i64 0,.string (⟨#[]⟩ : ByteArray),u306003] 27 (0,0)) (by (with_reducible repeat (first | refine blk_drewN ?_ _ | refine blk_drew ?_ | refine blk_alloc ?_ _));exact BK305.out) hg (Kd.R_away HO_306003.out (fun _ hk => hk.2.2.1)));have n2_ := Aside0.mk (IsS40.grown (by repeat (first | (with_reducible first | exact HI0.out | apply IsS40.alloc | apply IsS40.drewN | apply IsS40.drew | apply IsS40.set_1 | apply IsS40.set_2 | refine IsS40.far ?_ NB0_301.out _ | refine IsS40.far ?_ NB0_305.out _ | refine IsS40.far ?_ NB0_323.out _) | exact HI0.out)) hg (IsS40.own_ne HI0.out HO_306003.out (by decide)));have n3_ := Aside0.mk (blk_grown (g := gb323) (o := .cells #[.int .i64 t315,.int .i64 t316,.string t317,.slice Ao51 t318.length co51] 27 (0,0)) (by (with_reducible repeat (first | refine blk_drewN ?_ _ | refine blk_drew ?_ | refine blk_alloc ?_ _));exact BK323.out) hg (Kd.R_away HO_306003.out (fun _ hk => hk.2.2.2)));have n4_ := Aside0.mk (below_weaken (by repeat (first | (with_reducible first | exact HB.out | apply below_alloc | apply pw_below_drewN | apply below_drew1 | refine below_set ?_ (IsS40.ge HI0.out) | refine below_set ?_ GE301.out | refine below_set ?_ GE305.out | refine below_set ?_ GE323.out) | exact HB.out)) HL.out hb);have n5_ := Aside0.mk (KeepBut.trans (by repeat (first | (with_reducible first | exact HK.out | apply KeepBut.set_ | apply keep_drewN | apply keep_drew | apply keep_alloc | refine keep_far ?_ GW301.out _ | refine keep_far ?_ GW305.out _ | refine keep_far ?_ GW323.out _) | exact HK.out)) (KeepBut.of_grown hg g) (Kd.R_base2 HO_306003.out));have n6_ := Aside0.mk (ho);clear BK301;clear BK305;clear HI0;clear BK323;clear HB;clear HK;clear HO_306003;clear HO320;have BK301 := n0_;have BK305 := n1_;have HI0 := n2_;have BK323 := n3_;have HB := n4_;have HK := n5_;have HO326 := n6_;clear n0_ n1_ n2_ n3_ n4_ n5_ n6_;clear ho hb hg hat;obtain ⟨Ao58,co58,eo58⟩ := Kd.R_slice HO326.out;subst eo58;have hcz59_0 : w57.cell? ⟨gb305,0,none⟩ = some (.int .i64 t302) := (blk_cell BK305.out 0).trans rfl;have hcz59_1 : w57.cell? ⟨gb305,1,none⟩ = some (.int .i64 0) := (blk_cell BK305.out 1).trans rfl;have hcz59_2 : w57.cell? ⟨gb305,2,none⟩ = some (.string (⟨#[]⟩ : ByteArray)) := (blk_cell BK305.out 2).trans rfl;have hcz59_3 : w57.cell? ⟨gb305,3,none⟩ = some (u306003) := (blk_cell BK305.out 3).trans rfl;have hfz59_0 := blk_frozen BK305.out 0;have hfz59_1 := blk_frozen BK305.out 1;have hfz59_2 := blk_frozen BK305.out 2;have hfz59_3 := blk_frozen BK305.out 3))
            go_roundg k3
            case measure => have := HJ3.out;have := HJ27.out;have := HK3.out;omega
            case rel => exact ⟨(wrap64 (x32_3 + 1)),(t321),(t322),(y324),(.slice Ao58 y324.length co58),(by first | rfl | (simp;done) | (simp [*];done)),H',⟨by have := HJ3.out;have := HJ27.out;have := HK3.out;omega⟩,⟨by (with_reducible repeat (first | apply Kd.R_alloc | apply Kd.R_drewN | apply Kd.R_drew));exact Kd.R_mono (Kd.R_far (p := ⟨gb305,3,none⟩) (Kd.R_mono HO326.out (fun k_ hk => (⟨hk,hk.2.1⟩ : _ ∧ k_ ≠ gb305))) (fun _ hk => hk.2) (.slice Ao58 y324.length co58)) (fun _ hk => ⟨hk.1.1,hk.1.2.1⟩)⟩,⟨by (with_reducible repeat (first | refine blk_drewN ?_ _ | refine blk_drew ?_ | refine blk_alloc ?_ _));refine blk_far ?_ NB301_305.out _;(with_reducible repeat (first | refine blk_drewN ?_ _ | refine blk_drew ?_ | refine blk_alloc ?_ _));exact BK301.out⟩,⟨by (with_reducible repeat (first | refine blk_drewN ?_ _ | refine blk_drew ?_ | refine blk_alloc ?_ _));refine blk_put (cs := #[.int .i64 t302,.int .i64 0,.string (⟨#[]⟩ : ByteArray),u306003]) ?_ 3 _ rfl;(with_reducible repeat (first | refine blk_drewN ?_ _ | refine blk_drew ?_ | refine blk_alloc ?_ _));exact BK305.out⟩,⟨by repeat (first | (with_reducible first | exact HI0.out | apply IsS40.alloc | apply IsS40.drewN | apply IsS40.drew | apply IsS40.set_1 | apply IsS40.set_2 | refine IsS40.far ?_ NB0_301.out _ | refine IsS40.far ?_ NB0_305.out _ | refine IsS40.far ?_ NB0_323.out _) | exact HI0.out)⟩,⟨by repeat (first | (with_reducible first | exact HK.out | apply KeepBut.set_ | apply keep_drewN | apply keep_drew | apply keep_alloc | refine keep_far ?_ GW301.out _ | refine keep_far ?_ GW305.out _ | refine keep_far ?_ GW323.out _) | exact HK.out)⟩,⟨by repeat (first | (with_reducible first | exact HB.out | apply below_alloc | apply pw_below_drewN | apply below_drew1 | refine below_set ?_ (IsS40.ge HI0.out) | refine below_set ?_ GE301.out | refine below_set ?_ GE305.out | refine below_set ?_ GE323.out) | exact HB.out)⟩⟩
           ·rw [if_neg c43] at H
            exact absurd H (by simp)
         ·rw [if_neg c33] at H
          have c33b0 : decide (x32_3 < t312) = false := decide_eq_false c33
          clear c33
          simp only [Option.some.injEq,Prod.mk.injEq] at H
          obtain ⟨rfl,rfl,rfl,rfl,rfl,rfl⟩ := H
          have hnb60 := NB305_301.out
          have hnc60 := NB301_305.out
          have hnb61 := NB305_0.out
          have hnc61 := NB0_305.out
          have hcz62_0 : wr.cell? ⟨gb305,0,none⟩ = some (.int .i64 t302) := (blk_cell BK305.out 0).trans rfl
          have hcz62_1 : wr.cell? ⟨gb305,1,none⟩ = some (.int .i64 0) := (blk_cell BK305.out 1).trans rfl
          have hcz62_2 : wr.cell? ⟨gb305,2,none⟩ = some (.string (⟨#[]⟩ : ByteArray)) := (blk_cell BK305.out 2).trans rfl
          have hcz62_3 : wr.cell? ⟨gb305,3,none⟩ = some (u306003) := (blk_cell BK305.out 3).trans rfl
          have hfz62_0 := blk_frozen BK305.out 0
          have hfz62_1 := blk_frozen BK305.out 1
          have hfz62_2 := blk_frozen BK305.out 2
          have hfz62_3 := blk_frozen BK305.out 3
          have hnb63 := NB301_0.out
          have hnc63 := NB0_301.out
          have hcz64_0 : wr.cell? ⟨gb301,0,none⟩ = some (.int .i64 0) := (blk_cell BK301.out 0).trans rfl
          have hcz64_1 : wr.cell? ⟨gb301,1,none⟩ = some (.int .i64 0) := (blk_cell BK301.out 1).trans rfl
          have hcz64_2 : wr.cell? ⟨gb301,2,none⟩ = some (.string (⟨#[]⟩ : ByteArray)) := (blk_cell BK301.out 2).trans rfl
          have hcz64_3 : wr.cell? ⟨gb301,3,none⟩ = some (.slice none 0 0) := (blk_cell BK301.out 3).trans rfl
          have hfz64_0 := blk_frozen BK301.out 0
          have hfz64_1 := blk_frozen BK301.out 1
          have hfz64_2 := blk_frozen BK301.out 2
          have hfz64_3 := blk_frozen BK301.out 3
          obtain ⟨Ao65,co65,eo65⟩ := Kd.R_slice HO_306003.out
          subst eo65
          go_wp2
          refine bodyPost_ret (results_cell_row rfl _ _ gb301 27 #[.int .i64 t302,.int .i64 0,.string (⟨#[]⟩ : ByteArray),.slice Ao65 x306003_3.length co65] (0,0) _ rfl (by (with_reducible repeat (first | refine blk_drewN ?_ _ | refine blk_drew ?_ | refine blk_alloc ?_ _));refine blk_put (cs := #[.int .i64 t302,.int .i64 0,.string (⟨#[]⟩ : ByteArray),.slice none 0 0]) ?_ 3 _ rfl;(with_reducible repeat (first | refine blk_drewN ?_ _ | refine blk_drew ?_ | refine blk_alloc ?_ _));refine blk_put (cs := #[.int .i64 t302,.int .i64 0,.string (⟨#[]⟩ : ByteArray),.slice none 0 0]) ?_ 2 _ rfl;(with_reducible repeat (first | refine blk_drewN ?_ _ | refine blk_drew ?_ | refine blk_alloc ?_ _));refine blk_put (cs := #[.int .i64 t302,.int .i64 0,.string (⟨#[]⟩ : ByteArray),.slice none 0 0]) ?_ 1 _ rfl;(with_reducible repeat (first | refine blk_drewN ?_ _ | refine blk_drew ?_ | refine blk_alloc ?_ _));refine blk_put (cs := #[.int .i64 0,.int .i64 0,.string (⟨#[]⟩ : ByteArray),.slice none 0 0]) ?_ 0 _ rfl;(with_reducible repeat (first | refine blk_drewN ?_ _ | refine blk_drew ?_ | refine blk_alloc ?_ _));exact BK301.out) Try.underlying27 rfl (by kernel_rfl)) rfl ?_
          exact ⟨_,by first | rfl | (simp [*,errW_none,errW_some] <;> rfl),by (with_reducible repeat (first | apply Kd.R_alloc | apply Kd.R_drewN | apply Kd.R_drew));exact Kd.R_mono (Kd.R_far (p := ⟨gb301,3,none⟩) (Kd.R_far (p := ⟨gb301,2,none⟩) (Kd.R_far (p := ⟨gb301,1,none⟩) (Kd.R_far (p := ⟨gb301,0,none⟩) (Kd.R_mono HO_306003.out (fun k_ hk => (⟨hk,hk.1⟩ : _ ∧ k_ ≠ gb301))) (fun _ hk => hk.2) (.int .i64 t302)) (fun _ hk => hk.2) (.int .i64 0)) (fun _ hk => hk.2) (.string (⟨#[]⟩ : ByteArray))) (fun _ hk => hk.2) (.slice Ao65 x306003_3.length co65)) (fun _ hk => trivial),by repeat (first | (with_reducible first | exact HI0.out | apply IsS40.alloc | apply IsS40.drewN | apply IsS40.drew | apply IsS40.set_1 | apply IsS40.set_2 | refine IsS40.far ?_ NB0_301.out _ | refine IsS40.far ?_ NB0_305.out _) | exact HI0.out),by repeat (first | (with_reducible first | exact HB.out | apply below_alloc | apply pw_below_drewN | apply below_drew1 | refine below_set ?_ (IsS40.ge HI0.out) | refine below_set ?_ GE301.out | refine below_set ?_ GE305.out) | exact HB.out),by repeat (first | (with_reducible first | exact HK.out | apply KeepBut.set_ | apply keep_drewN | apply keep_drew | apply keep_alloc | refine keep_far ?_ GW301.out _ | refine keep_far ?_ GW305.out _) | exact HK.out)⟩

/-! ### bytes_Equal: function 18 -/
def bytes_Equal.f (l0 : List Int) (l1 : List Int) : Option (Bool) := some ((strOfNums l0).toList == (strOfNums l1).toList)
set_option maxHeartbeats 8000000 in
set_option maxRecDepth 100000 in
theorem bytes_Equal.calls (A0 : Option Addr) (c0 : Nat) (l0 : List Int) (A1 : Option Addr) (c1 : Nat) (l1 : List Int) (r : Bool) (w : World) (hr0 : Kd.C (Kd.int .u8) w A0 l0.length l0) (hc0 : l0.length ≤ c0) (hr1 : Kd.C (Kd.int .u8) w A1 l1.length l1) (hc1 : l1.length ≤ c1) (h : bytes_Equal.f l0 l1 = some r) :
  Calls Try.prog 18 #[.slice A0 l0.length c0,.slice A1 l1.length c1] w fun e w' => e = .returned (.bool r) ∧ Drawn0 w w' := by
 have HR0 := Aside0.mk hr0
 have HC0 := Aside0.mk hc0
 clear hr0 hc0
 have HR1 := Aside0.mk hr1
 have HC1 := Aside0.mk hc1
 clear hr1 hc1
 have H : (some ((strOfNums l0).toList == (strOfNums l1).toList)) = some r := h
 clear h
 obtain rfl := Option.some.inj H
 have hcv3 := Kd.C_string (P := Try.prog) (A := A0) (c := c0) Try.underlying22 Try.underlying5 Try.underlying9 HR0.out
 have hcv4 := fun m_ : Nat => Kd.C_string (P := Try.prog) (A := A0) (c := c0) Try.underlying22 Try.underlying5 Try.underlying9 (Kd.C_drewN HR0.out m_)
 have hcv5 := Kd.C_string (P := Try.prog) (A := A1) (c := c1) Try.underlying22 Try.underlying5 Try.underlying9 HR1.out
 have hcv6 := fun m_ : Nat => Kd.C_string (P := Try.prog) (A := A1) (c := c1) Try.underlying22 Try.underlying5 Try.underlying9 (Kd.C_drewN HR1.out m_)
 go_enter Try.func18,Try.ntmps18
 go_wp2
 go_ret
 exact ⟨by first | rfl | (simp;done) | (simp [*];done),by repeat (first | exact Drawn0.refl _ | apply Drawn0.step)⟩

/-! ### impl_putNum: function 29 -/
mutual
def impl_putNum.j0 : Nat → List Int → Int → Option (List Int)
 | 0,_,_ => none
 | k + 1,x0,x5 => impl_putNum.l0 k x0 x5
def impl_putNum.l0 : Nat → List Int → Int → Option (List Int)
 | 0,_,_ => none
 | k + 1,x0,x5 => if x5 > 127 then (if x0.length < 140737488355328 then (impl_putNum.l0 k (x0 ++ [(Go.bits .or .i64 128 (Go.bits .and .i64 x5 127)) % 256]) (x5 / 128)) else (none)) else (if x0.length < 140737488355328 then (some (x0 ++ [(x5) % 256])) else (none))
end
def impl_putNum.f (k : Nat) (l0 : List Int) (a1 : Int) : Option (List Int) := if (mx (-1000000000000) (mn a1 1000000000000)) < 0 then (impl_putNum.j0 k l0 (((-2) * (mx (-1000000000000) (mn a1 1000000000000))) - 1)) else (impl_putNum.j0 k l0 (2 * (mx (-1000000000000) (mn a1 1000000000000))))
theorem impl_putNum.mono_l : ∀ k,(∀ y0 y1,LeO (impl_putNum.j0 k y0 y1) (impl_putNum.j0 (k + 1) y0 y1)) ∧ (∀ y0 y1,LeO (impl_putNum.l0 k y0 y1) (impl_putNum.l0 (k + 1) y0 y1))
 | 0 => ⟨fun _ _ r h => by simp [impl_putNum.j0] at h,fun _ _ r h => by simp [impl_putNum.l0] at h⟩
 | k + 1 => by
  obtain ⟨ih0,ih1⟩ := impl_putNum.mono_l k
  refine ⟨?_,?_⟩
  ·intro y0 y1
   unfold impl_putNum.j0
   repeat' first
   | (with_reducible exact ih0 _ _)
   | (with_reducible exact ih1 _ _)
   | (with_reducible exact LeO.refl _)
   | (with_reducible exact LeO.none _)
   | (with_reducible refine LeO.ite ?_ ?_)
   | (with_reducible refine LeO.bind ?_ (fun _ => ?_))
   | exact ih0 _ _
   | exact ih1 _ _
   | exact LeO.none _
   | refine LeO.ite ?_ ?_
   | refine LeO.bind ?_ (fun _ => ?_)
  ·intro y0 y1
   unfold impl_putNum.l0
   repeat' first
   | (with_reducible exact ih0 _ _)
   | (with_reducible exact ih1 _ _)
   | (with_reducible exact LeO.refl _)
   | (with_reducible exact LeO.none _)
   | (with_reducible refine LeO.ite ?_ ?_)
   | (with_reducible refine LeO.bind ?_ (fun _ => ?_))
   | exact ih0 _ _
   | exact ih1 _ _
   | exact LeO.none _
   | refine LeO.ite ?_ ?_
   | refine LeO.bind ?_ (fun _ => ?_)
theorem impl_putNum.mono : ∀ a0 a1 k,LeO (impl_putNum.f k a0 a1) (impl_putNum.f (k + 1) a0 a1) := by
 intro a0 a1 k
 obtain ⟨ih0,ih1⟩ := impl_putNum.mono_l k
 unfold impl_putNum.f
 repeat' first
   | (with_reducible exact ih0 _ _)
   | (with_reducible exact ih1 _ _)
   | (with_reducible exact LeO.refl _)
   | (with_reducible exact LeO.none _)
   | (with_reducible refine LeO.ite ?_ ?_)
   | (with_reducible refine LeO.bind ?_ (fun _ => ?_))
   | exact ih0 _ _
   | exact ih1 _ _
   | exact LeO.none _
   | refine LeO.ite ?_ ?_
   | refine LeO.bind ?_ (fun _ => ?_)
set_option maxHeartbeats 8000000 in
set_option maxRecDepth 100000 in
theorem impl_putNum.calls (k : Nat) (P0_ : Nat → Prop) (u9000_ : Value) (l0 : List Int) (a1 : Int) (r : List Int) (w0 w : World) (hB : Below w0.heap.size w0 w) (ho0 : Kd.R (Kd.int .u8) 5 w w0.heap.size P0_ u9000_ l0) (h : impl_putNum.f k l0 a1 = some r) :
  Calls Try.prog 29 #[u9000_,.int .i64 a1] w fun e w' => ∃ v0_ : Value,e = .returned (v0_) ∧ Kd.R (Kd.int .u8) 5 w' w0.heap.size (fun k_ => (P0_ k_ ∨ w.heap.size ≤ k_)) v0_ r ∧ Below w0.heap.size w0 w' ∧ Kept w w' (fun k_ => P0_ k_) := by
 have HO0 := Aside0.mk (show Kd.R (Kd.int .u8) 5 w w0.heap.size (fun k_ => (P0_ k_ ∨ w.heap.size ≤ k_)) u9000_ l0 from Kd.R_mono ho0 (fun k_ hk => (.inl hk)))
 have HK := Aside0.mk (Kept.refl w (fun k_ => P0_ k_))
 have HW0 := Aside0.mk hB.size
 have HB := Aside0.mk hB
 clear hB
 have H : (if (mx (-1000000000000) (mn a1 1000000000000)) < 0 then (impl_putNum.j0 k l0 (((-2) * (mx (-1000000000000) (mn a1 1000000000000))) - 1)) else (impl_putNum.j0 k l0 (2 * (mx (-1000000000000) (mn a1 1000000000000))))) = some r := h
 clear h
 obtain ⟨ji3,hji3⟩ : ∃ j_ : Int,(mn a1 1000000000000) = j_ := ⟨_,rfl⟩
 replace H : (if (mx (-1000000000000) (ji3)) < 0 then (impl_putNum.j0 k l0 (((-2) * (mx (-1000000000000) (ji3))) - 1)) else (impl_putNum.j0 k l0 (2 * (mx (-1000000000000) (ji3))))) = some r := by first | (rw [hji3] at H;exact H) | (simp only [hji3] at H ⊢;exact H)
 (try (have hji3h : ji3 ≤ 1000000000000 := by (rw [← hji3];unfold mn;(repeat' split) <;> omega)))
 (try (have hji3g : ji3 ≤ 64 := by omega))
 have hji3_ : (if 1000000000000 < a1 then 1000000000000 else a1) = ji3 := hji3
 obtain ⟨ji4,hji4⟩ : ∃ j_ : Int,(mx (-1000000000000) (ji3)) = j_ := ⟨_,rfl⟩
 replace H : (if (ji4) < 0 then (impl_putNum.j0 k l0 (((-2) * (ji4)) - 1)) else (impl_putNum.j0 k l0 (2 * (ji4)))) = some r := by first | (rw [hji4] at H;exact H) | (simp only [hji4] at H ⊢;exact H)
 have hji4_ : (if (-1000000000000) < (ji3) then (ji3) else (-1000000000000)) = ji4 := hji4
 have HC5 := Aside0.mk H
 clear H
 go_enter Try.func29,Try.ntmps29
 go_upto_if 12 with (fail)
 go_cut [5] (fun v5 wc => ∃ (kq : Nat) (x5_4 : Int),v5 = .int .i64 x5_4 ∧ Aside0 (impl_putNum.j0 kq l0 x5_4 = some r) ∧ Aside0 (kq ≤ k) ∧ Aside0 (Kd.R (Kd.int .u8) 5 wc w0.heap.size (fun k_ => (P0_ k_ ∨ w.heap.size ≤ k_)) u9000_ l0) ∧ Aside0 (Kept w wc (fun k_ => P0_ k_)) ∧ Aside0 (Below w0.heap.size w0 wc))
 case first =>
  have H := HC5.out
  clear HC5
  by_cases c6 : (ji4) < 0
  ·rw [if_pos c6] at H
   have c6b0 : decide ((ji4) < 0) = true := decide_eq_true c6
   clear c6
   (first | rw [c6b0] | (simp only [i64_w,i32_w];rw [c6b0]) | (simp only [c6b2,Bool.not_true,Bool.not_false]) | skip)
   have H' := Aside0.mk H
   clear H
   go_wp2
   go_meet
   case rel => exact ⟨_,(((-2) * (ji4)) - 1),(by first | rfl | (simp;done) | (simp only [← hji4] <;> (first | rfl | simp)) | (simp [*];done)),H',⟨by first | omega | exact Nat.le_refl _⟩,⟨by (with_reducible repeat (first | apply Kd.R_alloc | apply Kd.R_drewN | apply Kd.R_drew));exact HO0.out⟩,⟨by repeat (first | (with_reducible first | exact HK.out | apply Kept.alloc | apply Kept.drewN | apply Kept.drew) | exact HK.out)⟩,⟨by repeat (first | (with_reducible first | exact HB.out | apply below_alloc | apply pw_below_drewN | apply below_drew1) | exact HB.out)⟩⟩
  ·rw [if_neg c6] at H
   have c6b0 : decide ((ji4) < 0) = false := decide_eq_false c6
   clear c6
   (first | rw [c6b0] | (simp only [i64_w,i32_w];rw [c6b0]) | (simp only [c6b2,Bool.not_true,Bool.not_false]) | skip)
   have H' := Aside0.mk H
   clear H
   go_wp2
   go_meet
   case rel => exact ⟨_,(2 * (ji4)),(by first | rfl | (simp;done) | (simp only [← hji4] <;> (first | rfl | simp)) | (simp [*];done)),H',⟨by first | omega | exact Nat.le_refl _⟩,⟨by (with_reducible repeat (first | apply Kd.R_alloc | apply Kd.R_drewN | apply Kd.R_drew));exact HO0.out⟩,⟨by repeat (first | (with_reducible first | exact HK.out | apply Kept.alloc | apply Kept.drewN | apply Kept.drew) | exact HK.out)⟩,⟨by repeat (first | (with_reducible first | exact HB.out | apply below_alloc | apply pw_below_drewN | apply below_drew1) | exact HB.out)⟩⟩
 case rest =>
  clear HC5
  try clear c2
  try clear p2
  try clear c6
  try clear c6b0
  try clear c6b2
  try clear HO_0
  try clear HK
  try clear HB
  obtain ⟨kq,x5_4,rfl,HA,HJ4,HO_0,HK,HB⟩ := hcut
  cases kq with
  | zero => exact absurd HA.out (by simp [impl_putNum.j0])
  | succ kj4 =>
   have H := HA.out
   clear HA
   simp only [impl_putNum.j0] at H
   have H' := Aside0.mk H
   clear H
   go_wp2
   go_loopg [0,5] kj4 (fun kq v0 v5 w' => ∃ (x0_2 : List Int) (x5_2 : Int),v5 = .int .i64 x5_2 ∧ Aside0 (impl_putNum.l0 kq x0_2 x5_2 = some r) ∧ Aside0 (kq ≤ kj4) ∧ Aside0 (Kd.R (Kd.int .u8) 5 w' w0.heap.size (fun k_ => (P0_ k_ ∨ w.heap.size ≤ k_)) v0 x0_2) ∧ Aside0 (Kept w w' (fun k_ => P0_ k_)) ∧ Aside0 (Below w0.heap.size w0 w'))
   case atStart => exact ⟨(l0),(x5_4),(by first | rfl | (simp;done) | (simp [*];done)),H',⟨Nat.le_refl _⟩,⟨by (with_reducible repeat (first | apply Kd.R_alloc | apply Kd.R_drewN | apply Kd.R_drew));exact HO_0.out⟩,⟨by repeat (first | (with_reducible first | exact HK.out | apply Kept.alloc | apply Kept.drewN | apply Kept.drew) | exact HK.out)⟩,⟨by repeat (first | (with_reducible first | exact HB.out | apply below_alloc | apply pw_below_drewN | apply below_drew1) | exact HB.out)⟩⟩
   case round =>
    clear H'
    try clear c2
    try clear p2
    try clear c6
    try clear c6b0
    try clear c6b2
    try clear p2
    try clear HO_0
    try clear HK
    try clear HB
    obtain ⟨x0_2,x5_2,rfl,HA,HK2,HO_0,HK,HB⟩ := hrel
    cases gk with
    | zero => exact absurd HA.out (by simp [impl_putNum.l0])
    | succ k2 =>
     have H := HA.out
     clear HA
     simp only [impl_putNum.l0] at H
     by_cases c7 : x5_2 > 127
     ·rw [if_pos c7] at H
      have c7b0 : decide (127 < x5_2) = true := decide_eq_true c7
      clear c7
      by_cases c8 : x0_2.length < 140737488355328
      ·rw [if_pos c8] at H
       have LMc8 := Aside0.mk c8
       clear c8
       obtain ⟨y327,hy327⟩ : ∃ y_ : List Int,y_ = (x0_2 ++ [(Go.bits .or .i64 128 (Go.bits .and .i64 x5_2 127)) % 256]) := ⟨_,rfl⟩
       replace H : (impl_putNum.l0 k2 y327 (x5_2 / 128)) = some r := by first | (rw [hy327];with_reducible exact H) | (have H2_ := (Option.bind_some _ _).symm.trans H;rw [hy327];with_reducible exact H2_) | (have H2_ := (Option.bind_some _ _).symm.trans H;with_reducible exact H2_) | with_reducible exact H | (rw [hy327];exact H) | exact H
       have Ny327 := Aside0.mk hy327
       clear hy327
       have H' := Aside0.mk H
       clear H
       go_wp2_with (first | ((with_reducible refine gate_builtin (b := .append) (xs := #[.tmp 18,.tmp 23]) rfl ?_);at_builtin;refine Kd.R_append (Kd.int .u8) (w0 := w0) w0.heap.size rfl (.tmp 18) (.tmp 23) 22 5 (.int .u8 0) 1 rfl Try.underlying22 info5 rfl (by decide) (by omega) u0 x0_2 ((Go.bits .or .i64 128 (Go.bits .and .i64 x5_2 127)) % 256) [.int .u8 ((Go.bits .or .i64 128 (Go.bits .and .i64 x5_2 127)) % 256)] (fun k_ => (P0_ k_ ∨ w.heap.size ≤ k_)) (fun _ => False) rfl rfl ?aP (fun _ hk => hk.elim) ?aF ?aO ?aB ?aS ?aL ?_;(case aP => exact rfl);(case aB => exact (by repeat (first | (with_reducible first | exact HB.out | apply below_alloc | apply pw_below_drewN | apply below_drew1) | exact HB.out)));(case aF => exact (fun k_ hk => (.inr (Nat.le_trans (by first | exact HK.out.1 | exact (show Kept w _ (fun k_ => P0_ k_) from by repeat (first | (with_reducible first | exact HK.out | apply Kept.alloc | apply Kept.drewN | apply Kept.drew) | exact HK.out)).1) hk))));(case aO => exact (by (with_reducible repeat (first | apply Kd.R_alloc | apply Kd.R_drewN | apply Kd.R_drew));exact HO_0.out));(case aS => exact (below_size (by repeat (first | (with_reducible first | exact HB.out | apply below_alloc | apply pw_below_drewN | apply below_drew1) | exact HB.out))));(case aL => have := LMc8.out;omega);intro v328 w9 ho hb hg hat;rw [← Ny327.out] at ho;have n0_ := Aside0.mk (hb);have n1_ := Aside0.mk (Kept.of_grown (S := (fun k_ => P0_ k_)) hg (by repeat (first | (with_reducible first | exact HK.out | apply Kept.alloc | apply Kept.drewN | apply Kept.drew) | exact HK.out)) (fun k_ e_ => (HO_0.out.1 k_ e_)));have n2_ := Aside0.mk (ho);clear HB;clear HK;clear HO_0;have HB := n0_;have HK := n1_;have HO329 := n2_;clear n0_ n1_ n2_;clear ho hb hg hat))
       go_roundg k2
       case measure => have := HJ4.out;have := HK2.out;omega
       case rel => exact ⟨(y327),(x5_2 / 128),(by first | rfl | (simp;done) | (simp [*];done)),H',⟨by have := HJ4.out;have := HK2.out;omega⟩,⟨by (with_reducible repeat (first | apply Kd.R_alloc | apply Kd.R_drewN | apply Kd.R_drew));exact HO329.out⟩,⟨by repeat (first | (with_reducible first | exact HK.out | apply Kept.alloc | apply Kept.drewN | apply Kept.drew) | exact HK.out)⟩,⟨by repeat (first | (with_reducible first | exact HB.out | apply below_alloc | apply pw_below_drewN | apply below_drew1) | exact HB.out)⟩⟩
      ·rw [if_neg c8] at H
       exact absurd H (by simp)
     ·rw [if_neg c7] at H
      have c7b0 : decide (127 < x5_2) = false := decide_eq_false c7
      clear c7
      by_cases c10 : x0_2.length < 140737488355328
      ·rw [if_pos c10] at H
       have LMc10 := Aside0.mk c10
       clear c10
       obtain ⟨y330,hy330⟩ : ∃ y_ : List Int,y_ = (x0_2 ++ [(x5_2) % 256]) := ⟨_,rfl⟩
       replace H : (some y330) = some r := by first | (rw [hy330];with_reducible exact H) | (have H2_ := (Option.bind_some _ _).symm.trans H;rw [hy330];with_reducible exact H2_) | (have H2_ := (Option.bind_some _ _).symm.trans H;with_reducible exact H2_) | with_reducible exact H | (rw [hy330];exact H) | exact H
       have Ny330 := Aside0.mk hy330
       clear hy330
       obtain rfl := Option.some.inj H
       go_wp2_with (first | ((with_reducible refine gate_builtin (b := .append) (xs := #[.tmp 27,.tmp 30]) rfl ?_);at_builtin;refine Kd.R_append (Kd.int .u8) (w0 := w0) w0.heap.size rfl (.tmp 27) (.tmp 30) 22 5 (.int .u8 0) 1 rfl Try.underlying22 info5 rfl (by decide) (by omega) u0 x0_2 ((x5_2) % 256) [.int .u8 ((x5_2) % 256)] (fun k_ => (P0_ k_ ∨ w.heap.size ≤ k_)) (fun _ => False) rfl rfl ?aP (fun _ hk => hk.elim) ?aF ?aO ?aB ?aS ?aL ?_;(case aP => exact rfl);(case aB => exact (by repeat (first | (with_reducible first | exact HB.out | apply below_alloc | apply pw_below_drewN | apply below_drew1) | exact HB.out)));(case aF => exact (fun k_ hk => (.inr (Nat.le_trans (by first | exact HK.out.1 | exact (show Kept w _ (fun k_ => P0_ k_) from by repeat (first | (with_reducible first | exact HK.out | apply Kept.alloc | apply Kept.drewN | apply Kept.drew) | exact HK.out)).1) hk))));(case aO => exact (by (with_reducible repeat (first | apply Kd.R_alloc | apply Kd.R_drewN | apply Kd.R_drew));exact HO_0.out));(case aS => exact (below_size (by repeat (first | (with_reducible first | exact HB.out | apply below_alloc | apply pw_below_drewN | apply below_drew1) | exact HB.out))));(case aL => have := LMc10.out;omega);intro v331 w11 ho hb hg hat;rw [← Ny330.out] at ho;have n0_ := Aside0.mk (hb);have n1_ := Aside0.mk (Kept.of_grown (S := (fun k_ => P0_ k_)) hg (by repeat (first | (with_reducible first | exact HK.out | apply Kept.alloc | apply Kept.drewN | apply Kept.drew) | exact HK.out)) (fun k_ e_ => (HO_0.out.1 k_ e_)));have n2_ := Aside0.mk (ho);clear HB;clear HK;clear HO_0;have HB := n0_;have HK := n1_;have HO332 := n2_;clear n0_ n1_ n2_;clear ho hb hg hat))
       go_ret
       exact ⟨_,by first | rfl | (simp [errW_none,errW_some] <;> rfl) | (simp only [← hji3,← hji4];first | rfl | (simp [errW_none,errW_some] <;> rfl)) | (simp [*,errW_none,errW_some] <;> rfl),by (with_reducible repeat (first | apply Kd.R_alloc | apply Kd.R_drewN | apply Kd.R_drew));exact HO332.out,by repeat (first | (with_reducible first | exact HB.out | apply below_alloc | apply pw_below_drewN | apply below_drew1) | exact HB.out),by repeat (first | (with_reducible first | exact HK.out | apply Kept.alloc | apply Kept.drewN | apply Kept.drew) | exact HK.out)⟩
      ·rw [if_neg c10] at H
       exact absurd H (by simp)

/-! ### impl_putText: function 30 -/
def impl_putText.f (k : Nat) (l0 : List Int) (a1 : ByteArray) : Option (List Int) := (impl_putNum.f k l0 (a1.size : Int)).bind fun t333 => (if t333.length + a1.size < 140737488355328 then (some (t333 ++ bytesOf a1)) else (none))
theorem impl_putText.mono : ∀ a0 a1 k,LeO (impl_putText.f k a0 a1) (impl_putText.f (k + 1) a0 a1) := by
 intro a0 a1 k
 unfold impl_putText.f
 repeat' first
   | (with_reducible exact impl_putNum.mono _ _ _)
   | (with_reducible exact LeO.refl _)
   | (with_reducible exact LeO.none _)
   | (with_reducible refine LeO.ite ?_ ?_)
   | (with_reducible refine LeO.bind ?_ (fun _ => ?_))
   | exact impl_putNum.mono _ _ _
   | exact LeO.none _
   | refine LeO.ite ?_ ?_
   | refine LeO.bind ?_ (fun _ => ?_)
set_option maxHeartbeats 8000000 in
set_option maxRecDepth 100000 in
theorem impl_putText.calls (k : Nat) (P0_ : Nat → Prop) (u9000_ : Value) (l0 : List Int) (a1 : ByteArray) (r : List Int) (w0 w : World) (hB : Below w0.heap.size w0 w) (ho0 : Kd.R (Kd.int .u8) 5 w w0.heap.size P0_ u9000_ l0) (h : impl_putText.f k l0 a1 = some r) :
  Calls Try.prog 30 #[u9000_,.string a1] w fun e w' => ∃ v0_ : Value,e = .returned (v0_) ∧ Kd.R (Kd.int .u8) 5 w' w0.heap.size (fun k_ => (P0_ k_ ∨ w.heap.size ≤ k_)) v0_ r ∧ Below w0.heap.size w0 w' ∧ Kept w w' (fun k_ => P0_ k_) := by
 have HO0 := Aside0.mk (show Kd.R (Kd.int .u8) 5 w w0.heap.size (fun k_ => (P0_ k_ ∨ w.heap.size ≤ k_)) u9000_ l0 from Kd.R_mono ho0 (fun k_ hk => (.inl hk)))
 have HK := Aside0.mk (Kept.refl w (fun k_ => P0_ k_))
 have HW0 := Aside0.mk hB.size
 have HB := Aside0.mk hB
 clear hB
 have H : ((impl_putNum.f k l0 (a1.size : Int)).bind fun t333 => (if t333.length + a1.size < 140737488355328 then (some (t333 ++ bytesOf a1)) else (none))) = some r := h
 clear h
 replace H := Option.bind_eq_some_iff.mp H
 obtain ⟨t333,A30,H⟩ := H
 replace H : (if t333.length + a1.size < 140737488355328 then (some (t333 ++ bytesOf a1)) else (none)) = some r := H
 have A3 := Aside0.mk A30
 clear A30
 by_cases c4 : t333.length + a1.size < 140737488355328
 ·rw [if_pos c4] at H
  have LMc4 := Aside0.mk c4
  clear c4
  obtain ⟨y336,hy336⟩ : ∃ y_ : List Int,y_ = (t333 ++ bytesOf a1) := ⟨_,rfl⟩
  replace H : (some y336) = some r := by first | (rw [hy336];with_reducible exact H) | (have H2_ := (Option.bind_some _ _).symm.trans H;rw [hy336];with_reducible exact H2_) | (have H2_ := (Option.bind_some _ _).symm.trans H;with_reducible exact H2_) | with_reducible exact H | (rw [hy336];exact H) | exact H
  have Ny336 := Aside0.mk hy336
  clear hy336
  obtain rfl := Option.some.inj H
  obtain ⟨Ao5,co5,eo5⟩ := Kd.R_slice HO0.out
  subst eo5
  go_enter Try.func30,Try.ntmps30
  go_wp2_with (first | ((with_reducible refine gate_callee (f := 29) rfl ?_);refine goesL_ (some 8) rfl rfl Try.func29 (by kernel_rfl) rfl #[.slice Ao5 l0.length co5,.int .i64 (a1.size : Int)] rfl (by (try simp only [List.map_toArray,List.map_cons,List.map_nil]);first | done | rfl | (simp only [List.length_drop,List.length_take];rfl)) ?_;(with_reducible refine (impl_putNum.calls k (fun k_ => some k_ = (.slice Ao5 l0.length co5 : Value).ownBlock) (.slice Ao5 l0.length co5) l0 (a1.size : Int) t333 w0 _ ?side1 ?side2 A3.out).mono ?_);(case side1 => repeat (first | (with_reducible first | exact HB.out | apply below_alloc | apply pw_below_drewN | apply below_drew1) | exact HB.out));(case side2 => exact Kd.R_tight rfl HO0.out);rintro e w6 ⟨v334,rfl,ho0,hb,hkp⟩;refine ⟨_,rfl,?_⟩;have n0_ := Aside0.mk (Kd.R_mono (ok' := fun k_ => (P0_ k_ ∨ w.heap.size ≤ k_)) ho0 (fun k_ hk_ => Or.elim hk_ (fun hs_ => (HO0.out.1 k_ (hs_).symm)) (fun hn_ => (.inr (Nat.le_trans (by first | exact HK.out.1 | exact (show Kept w _ (fun k_ => P0_ k_) from by repeat (first | (with_reducible first | exact HK.out | apply Kept.alloc | apply Kept.drewN | apply Kept.drew) | exact HK.out)).1) hn_)))));have n1_ := Aside0.mk (Kept.then_ (S := (fun k_ => P0_ k_)) (by repeat (first | (with_reducible first | exact HK.out | apply Kept.alloc | apply Kept.drewN | apply Kept.drew) | exact HK.out)) hkp (fun k_ hs_ => (fun e_ => (HO0.out.1 k_ e_.symm)) hs_));have n2_ := Aside0.mk (hb);clear HK;clear HB;clear HO0;have HO335 := n0_;have HK := n1_;have HB := n2_;clear n0_ n1_ n2_;(try clear hb);(try clear hkp);(try clear ho0)) | (at_builtin;refine append_str2 (w0 := w0) w0.heap.size rfl (.tmp 8) _ 22 9 5 rfl Try.underlying22 Try.underlying9 info5 v334 t333 a1 rfl rfl ?aO ?aB ?aS ?aL ?_;(case aB => exact (by repeat (first | (with_reducible first | exact HB.out | apply below_alloc | apply pw_below_drewN | apply below_drew1) | exact HB.out)));(case aO => exact (Kd.own_of_R (by (with_reducible repeat (first | apply Kd.R_alloc | apply Kd.R_drewN | apply Kd.R_drew));exact HO335.out)));(case aS => exact (below_size (by repeat (first | (with_reducible first | exact HB.out | apply below_alloc | apply pw_below_drewN | apply below_drew1) | exact HB.out))));(case aL => have := LMc4.out;omega);intro v337 w7 ho0 hb hg hat;have ho := Kd.R_of_own (h1 := fun _ => rfl) (ok := (fun k_ => (P0_ k_ ∨ w.heap.size ≤ k_))) ho0 (fun k_ hk_ => Or.elim (hat k_ hk_) (fun e_ => (HO335.out.1 k_ e_)) (fun l_ => (.inr (Nat.le_trans (by first | exact HK.out.1 | exact (show Kept w _ (fun k_ => P0_ k_) from by repeat (first | (with_reducible first | exact HK.out | apply Kept.alloc | apply Kept.drewN | apply Kept.drew) | exact HK.out)).1) l_))));clear ho0;rw [← Ny336.out] at ho;change Kd.R (Kd.int .u8) 5 w7 w0.heap.size (fun k_ => (P0_ k_ ∨ w.heap.size ≤ k_)) v337 y336 at ho;have n0_ := Aside0.mk (hb);have n1_ := Aside0.mk (Kept.of_grown (S := (fun k_ => P0_ k_)) hg (by repeat (first | (with_reducible first | exact HK.out | apply Kept.alloc | apply Kept.drewN | apply Kept.drew) | exact HK.out)) (fun k_ e_ => (HO335.out.1 k_ e_)));have n2_ := Aside0.mk (ho);clear HB;clear HK;clear HO335;have HB := n0_;have HK := n1_;have HO338 := n2_;clear n0_ n1_ n2_;clear ho hb hg hat))
  go_ret
  exact ⟨_,by first | rfl | (simp [*,errW_none,errW_some] <;> rfl),by (with_reducible repeat (first | apply Kd.R_alloc | apply Kd.R_drewN | apply Kd.R_drew));exact HO338.out,by repeat (first | (with_reducible first | exact HB.out | apply below_alloc | apply pw_below_drewN | apply below_drew1) | exact HB.out),by repeat (first | (with_reducible first | exact HK.out | apply Kept.alloc | apply Kept.drewN | apply Kept.drew) | exact HK.out)⟩
 ·rw [if_neg c4] at H
  exact absurd H (by simp)

end Go.Proofs.Ytohafgndnpjfbaa.QFnReadTerms
