-- Written by a program of this workplace (print2.py) for this claim, over the print's words.
import Derived.Test.YtohafgndnpjfbaaQFnReadTermsx0
import Derived.Test.YtohafgndnpjfbaaQFnReadTermsx1
import Derived.Test.YtohafgndnpjfbaaQFnReadTermsx3
namespace Go.Proofs.Ytohafgndnpjfbaa.QFnReadTerms
open Go.RowKit Go.Proofs.YtohafgndnpjfbaaW.PrintWords Go.Proofs.YtohafgndnpjfbaaW.PrintLast Go.Proofs.YtohafgndnpjfbaaW.PrintMore
attribute [local go_sem] max2_int min2_int max_two min_two max_three min_three max_four min_four   -- for this text's walks alone
set_option linter.unusedVariables false
set_option linter.unusedSimpArgs false

/-! ### spec_l2Draw: function 14 -/
mutual
def spec_l2Draw.j0 : Nat → Int → Int → Bool → List Int → Int → Int → Option (Int × Int × ByteArray × (List (S27)) × Int × Int)
 | 0,_,_,_,_,_,_ => none
 | k + 1,x1,x8,x9,x1000,x1001,x1002 => if x9 = true then ((spec_l1Below.f x1000 x1001 x1002 1000).bind fun bt188 => ((spec_l1Int.f x1000 bt188.2.1 bt188.2.2 (([0,1,2,(-1),7,1000000000000,(-1000000000000),bt188.1] : List Int))).bind fun bt194 => (some (1,bt194.1,(⟨#[]⟩ : ByteArray),([] : List (S27)),bt194.2.1,bt194.2.2)))) else (if x8 = 3 then (spec_l2Draw.j1 k x1 x8 (x8 == 3) x1000 x1001 x1002) else (spec_l2Draw.j1 k x1 x8 (x8 == 4) x1000 x1001 x1002))
def spec_l2Draw.j1 : Nat → Int → Int → Bool → List Int → Int → Int → Option (Int × Int × ByteArray × (List (S27)) × Int × Int)
 | 0,_,_,_,_,_,_ => none
 | k + 1,x1,x8,x19,x1000,x1001,x1002 => if x19 = true then ((spec_l1Str.f x1000 x1001 x1002 (([(⟨#[111,107]⟩ : ByteArray),(⟨#[115,116,111,112]⟩ : ByteArray),(⟨#[97]⟩ : ByteArray),(⟨#[116,114,117,101]⟩ : ByteArray),(⟨#[97,100,100]⟩ : ByteArray)] : List ByteArray))).bind fun bt200 => (some (2,0,bt200.1,([] : List (S27)),bt200.2.1,bt200.2.2))) else (if x8 = 5 then ((spec_l1Below.f x1000 x1001 x1002 5).bind fun bt203 => (some (3,bt203.1,(⟨#[]⟩ : ByteArray),([] : List (S27)),bt203.2.1,bt203.2.2))) else ((spec_l1Int.f x1000 x1001 x1002 (([4,5] : List Int))).bind fun bt209 => ((spec_l1Below.f x1000 bt209.2.1 bt209.2.2 4).bind fun bt213 => (spec_l2Draw.l0 k x1 bt213.1 x1000 bt213.2.1 bt213.2.2 bt209.1 0 (⟨#[]⟩ : ByteArray) ([] : List (S27))))))
def spec_l2Draw.l0 : Nat → Int → Int → List Int → Int → Int → Int → Int → ByteArray → List (S27) → Option (Int × Int × ByteArray × (List (S27)) × Int × Int)
 | 0,_,_,_,_,_,_,_,_,_ => none
 | k + 1,x1,x6,x1000,x1001,x1002,x213000,x213001,x213002,x213003 => if x6 > 0 then (if x1 > 0 then ((spec_l2Draw.f k x1000 x1001 x1002 (wrap64 (x1 - 1))).bind fun bt216 => (if x213003.length < 2513169434916 then (spec_l2Draw.l0 k x1 (wrap64 (x6 - 1)) x1000 bt216.2.2.2.2.1 bt216.2.2.2.2.2 x213000 x213001 x213002 (x213003 ++ [(⟨bt216.1,bt216.2.1,bt216.2.2.1,bt216.2.2.2.1⟩ : S27)])) else (none))) else (some (x213000,x213001,x213002,x213003,x1001,x1002))) else (some (x213000,x213001,x213002,x213003,x1001,x1002))
def spec_l2Draw.f : Nat → List Int → Int → Int → Int → Option (Int × Int × ByteArray × (List (S27)) × Int × Int)
 | 0,_,_,_,_ => none
 | k + 1,s0_0,s0_1,s0_2,a1 => (spec_l1Below.f s0_0 s0_1 s0_2 8).bind fun bt185 => (if bt185.1 = 0 then (spec_l2Draw.j0 k a1 bt185.1 (bt185.1 == 0) s0_0 bt185.2.1 bt185.2.2) else (if bt185.1 = 1 then (spec_l2Draw.j0 k a1 bt185.1 (bt185.1 == 1) s0_0 bt185.2.1 bt185.2.2) else (spec_l2Draw.j0 k a1 bt185.1 (bt185.1 == 2) s0_0 bt185.2.1 bt185.2.2)))
end
theorem spec_l2Draw.mono_l : ∀ k,(∀ y0 y1 y2 y3,LeO (spec_l2Draw.f k y0 y1 y2 y3) (spec_l2Draw.f (k + 1) y0 y1 y2 y3)) ∧ (∀ y0 y1 y2 y3 y4 y5,LeO (spec_l2Draw.j0 k y0 y1 y2 y3 y4 y5) (spec_l2Draw.j0 (k + 1) y0 y1 y2 y3 y4 y5)) ∧ (∀ y0 y1 y2 y3 y4 y5,LeO (spec_l2Draw.j1 k y0 y1 y2 y3 y4 y5) (spec_l2Draw.j1 (k + 1) y0 y1 y2 y3 y4 y5)) ∧ (∀ y0 y1 y2 y3 y4 y5 y6 y7 y8,LeO (spec_l2Draw.l0 k y0 y1 y2 y3 y4 y5 y6 y7 y8) (spec_l2Draw.l0 (k + 1) y0 y1 y2 y3 y4 y5 y6 y7 y8))
 | 0 => ⟨fun _ _ _ _ r h => by simp [spec_l2Draw.f] at h,fun _ _ _ _ _ _ r h => by simp [spec_l2Draw.j0] at h,fun _ _ _ _ _ _ r h => by simp [spec_l2Draw.j1] at h,fun _ _ _ _ _ _ _ _ _ r h => by simp [spec_l2Draw.l0] at h⟩
 | k + 1 => by
  obtain ⟨ih0,ih1,ih2,ih3⟩ := spec_l2Draw.mono_l k
  refine ⟨?_,?_,?_,?_⟩
  ·intro y0 y1 y2 y3
   unfold spec_l2Draw.f
   repeat' first
   | (with_reducible exact ih0 _ _ _ _)
   | (with_reducible exact ih1 _ _ _ _ _ _)
   | (with_reducible exact ih2 _ _ _ _ _ _)
   | (with_reducible exact ih3 _ _ _ _ _ _ _ _ _)
   | (with_reducible exact LeO.refl _)
   | (with_reducible exact LeO.none _)
   | (with_reducible refine LeO.ite ?_ ?_)
   | (with_reducible refine LeO.bind ?_ (fun _ => ?_))
   | exact ih0 _ _ _ _
   | exact ih1 _ _ _ _ _ _
   | exact ih2 _ _ _ _ _ _
   | exact ih3 _ _ _ _ _ _ _ _ _
   | exact LeO.none _
   | refine LeO.ite ?_ ?_
   | refine LeO.bind ?_ (fun _ => ?_)
  ·intro y0 y1 y2 y3 y4 y5
   unfold spec_l2Draw.j0
   repeat' first
   | (with_reducible exact ih0 _ _ _ _)
   | (with_reducible exact ih1 _ _ _ _ _ _)
   | (with_reducible exact ih2 _ _ _ _ _ _)
   | (with_reducible exact ih3 _ _ _ _ _ _ _ _ _)
   | (with_reducible exact LeO.refl _)
   | (with_reducible exact LeO.none _)
   | (with_reducible refine LeO.ite ?_ ?_)
   | (with_reducible refine LeO.bind ?_ (fun _ => ?_))
   | exact ih0 _ _ _ _
   | exact ih1 _ _ _ _ _ _
   | exact ih2 _ _ _ _ _ _
   | exact ih3 _ _ _ _ _ _ _ _ _
   | exact LeO.none _
   | refine LeO.ite ?_ ?_
   | refine LeO.bind ?_ (fun _ => ?_)
  ·intro y0 y1 y2 y3 y4 y5
   unfold spec_l2Draw.j1
   repeat' first
   | (with_reducible exact ih0 _ _ _ _)
   | (with_reducible exact ih1 _ _ _ _ _ _)
   | (with_reducible exact ih2 _ _ _ _ _ _)
   | (with_reducible exact ih3 _ _ _ _ _ _ _ _ _)
   | (with_reducible exact LeO.refl _)
   | (with_reducible exact LeO.none _)
   | (with_reducible refine LeO.ite ?_ ?_)
   | (with_reducible refine LeO.bind ?_ (fun _ => ?_))
   | exact ih0 _ _ _ _
   | exact ih1 _ _ _ _ _ _
   | exact ih2 _ _ _ _ _ _
   | exact ih3 _ _ _ _ _ _ _ _ _
   | exact LeO.none _
   | refine LeO.ite ?_ ?_
   | refine LeO.bind ?_ (fun _ => ?_)
  ·intro y0 y1 y2 y3 y4 y5 y6 y7 y8
   unfold spec_l2Draw.l0
   repeat' first
   | (with_reducible exact ih0 _ _ _ _)
   | (with_reducible exact ih1 _ _ _ _ _ _)
   | (with_reducible exact ih2 _ _ _ _ _ _)
   | (with_reducible exact ih3 _ _ _ _ _ _ _ _ _)
   | (with_reducible exact LeO.refl _)
   | (with_reducible exact LeO.none _)
   | (with_reducible refine LeO.ite ?_ ?_)
   | (with_reducible refine LeO.bind ?_ (fun _ => ?_))
   | exact ih0 _ _ _ _
   | exact ih1 _ _ _ _ _ _
   | exact ih2 _ _ _ _ _ _
   | exact ih3 _ _ _ _ _ _ _ _ _
   | exact LeO.none _
   | refine LeO.ite ?_ ?_
   | refine LeO.bind ?_ (fun _ => ?_)
theorem spec_l2Draw.mono : ∀ a0 a1 a2 a3 k,LeO (spec_l2Draw.f k a0 a1 a2 a3) (spec_l2Draw.f (k + 1) a0 a1 a2 a3) := by
 intro a0 a1 a2 a3 k
 obtain ⟨ih0,ih1,ih2,ih3⟩ := spec_l2Draw.mono_l k
 exact ih0 a0 a1 a2 a3
def spec_l2Draw.T15 : Bool × List (List Nat × List Nat) := (true,[([],[]),([0],[0]),([],[]),([],[]),([3],[3]),([2,4],[2,4]),([5],[5]),([1,6,5],[1,6]),([0,1,2,3,4,5,6,7],[]),([8,7,7,0,1,2,3,4,5,6,7],[7,8])])
def spec_l2Draw.B15 : List Nat := [0,1,0,0,8,28,60,127,255,511]
theorem spec_l2Draw.tab15 : rtab .any (opsOf Try.f14 15) = spec_l2Draw.T15 := by kernel_rfl
theorem spec_l2Draw.bits15 : waitsOk spec_l2Draw.T15.2 spec_l2Draw.B15 = true := by kernel_rfl
set_option maxHeartbeats 8000000 in
set_option maxRecDepth 100000 in
theorem spec_l2Draw.calls (k : Nat) : ∀ (g : Nat) (s0_0 : List Int) (s0_1 : Int) (s0_2 : Int) (a1 : Int) (r1 : Int) (r2 : Int) (r3 : ByteArray) (r4 : List (S27)) (r5 : Int) (r6 : Int) (w0 w : World) (hI : IsS47 w0 w g s0_0 s0_1 s0_2) (hB : Below w0.heap.size w0 w) (h : spec_l2Draw.f k s0_0 s0_1 s0_2 a1 = some (r1,r2,r3,r4,r5,r6)),
  Calls Try.prog 14 #[.pointer (some ⟨g,0,none⟩),.int .i64 a1] w fun e w' => ∃ v3_ : Value,e = .returned (.agg #[.int .i64 r1,.int .i64 r2,.string r3,v3_]) ∧ Kd.R k27 27 w' w.heap.size (fun _ => True) v3_ r4 ∧ IsS47 w0 w' g s0_0 r5 r6 ∧ Below w0.heap.size w0 w' ∧ KeepBut w w' g none := by
 induction k using Nat.strongRecOn with
 | _ k ih =>
 intro g s0_0 s0_1 s0_2 a1 r1 r2 r3 r4 r5 r6 w0 w hI hB h
 cases k with
 | zero => exact absurd h (by simp [spec_l2Draw.f])
 | succ k =>
 simp only [spec_l2Draw.f] at h
 have hu27 := Try.underlying27
 have HI0 := Aside0.mk hI
 have HK := Aside0.mk (KeepBut.refl w g none)
 have HL := Aside0.mk hB.size
 clear hI
 have HW0 := Aside0.mk hB.size
 have HB := Aside0.mk hB
 clear hB
 have H : ((spec_l1Below.f s0_0 s0_1 s0_2 8).bind fun bt185 => (if bt185.1 = 0 then (spec_l2Draw.j0 k a1 bt185.1 (bt185.1 == 0) s0_0 bt185.2.1 bt185.2.2) else (if bt185.1 = 1 then (spec_l2Draw.j0 k a1 bt185.1 (bt185.1 == 1) s0_0 bt185.2.1 bt185.2.2) else (spec_l2Draw.j0 k a1 bt185.1 (bt185.1 == 2) s0_0 bt185.2.1 bt185.2.2)))) = some (r1,r2,r3,r4,r5,r6) := h
 clear h
 replace H := Option.bind_eq_some_iff.mp H
 obtain ⟨⟨t185,t186,t187⟩,A30,H⟩ := H
 replace H : (if t185 = 0 then (spec_l2Draw.j0 k a1 t185 (t185 == 0) s0_0 t186 t187) else (if t185 = 1 then (spec_l2Draw.j0 k a1 t185 (t185 == 1) s0_0 t186 t187) else (spec_l2Draw.j0 k a1 t185 (t185 == 2) s0_0 t186 t187))) = some (r1,r2,r3,r4,r5,r6) := H
 have A3 := Aside0.mk A30
 clear A30
 have HC4 := Aside0.mk H
 clear H
 go_enter Try.func14,Try.ntmps14
 go_upto_if 9 with (first | ((with_reducible refine gate_dst (N := 4) rfl ?_);refine box_event ?hg (N := 4) ?hd (cs := #[.int .i64 0,.int .i64 0,.string (⟨#[]⟩ : ByteArray),.slice none 0 0]) (t := 27) ?hr ?_;(case hd => rfl);(case hg => rfl);(case hr => first | (go_simp;done) | (go_simp;rfl));intro gb184 hg w5 hbox hb;have n0_ := Aside0.mk (IsS47.below (by repeat (first | (with_reducible first | exact HI0.out | apply IsS47.alloc | apply IsS47.drewN | apply IsS47.drew | apply IsS47.set_1 | apply IsS47.set_2) | exact HI0.out)) hb);have n1_ := Aside0.mk (KeepBut.trans (by repeat (first | (with_reducible first | exact HK.out | apply KeepBut.set_ | apply keep_drewN | apply keep_drew | apply keep_alloc) | exact HK.out)) (KeepBut.of_below hb g none) (.inl rfl));have n2_ := Aside0.mk (below_step (by repeat (first | (with_reducible first | exact HB.out | apply below_alloc | apply pw_below_drewN | apply below_drew1 | refine below_set ?_ (IsS47.ge HI0.out)) | exact HB.out)) hb);have n3_ := Aside0.mk (hbox);have n4_ := Aside0.mk ((by rw [hg];exact (keep_size (w := w) (g := g) (row := none) (by repeat (first | (with_reducible first | exact HK.out | apply KeepBut.set_ | apply keep_drewN | apply keep_drew | apply keep_alloc) | exact HK.out))) : w.heap.size ≤ gb184));have n5_ := Aside0.mk ((Nat.le_trans HW0.out (by rw [hg];exact (keep_size (w := w) (g := g) (row := none) (by repeat (first | (with_reducible first | exact HK.out | apply KeepBut.set_ | apply keep_drewN | apply keep_drew | apply keep_alloc) | exact HK.out))) : w.heap.size ≤ gb184) : w0.heap.size ≤ gb184));have n6_ := Aside0.mk ((by rw [hg];exact Nat.ne_of_lt (IsS47.lt (show IsS47 w0 _ g s0_0 s0_1 s0_2 from by repeat (first | (with_reducible first | exact HI0.out | apply IsS47.alloc | apply IsS47.drewN | apply IsS47.drew | apply IsS47.set_1 | apply IsS47.set_2) | exact HI0.out))) : g ≠ gb184));have n7_ := Aside0.mk ((by rw [hg];exact Nat.ne_of_gt (IsS47.lt (show IsS47 w0 _ g s0_0 s0_1 s0_2 from by repeat (first | (with_reducible first | exact HI0.out | apply IsS47.alloc | apply IsS47.drewN | apply IsS47.drew | apply IsS47.set_1 | apply IsS47.set_2) | exact HI0.out))) : gb184 ≠ g));clear HI0;clear HK;clear HB;have HI0 := n0_;have HK := n1_;have HB := n2_;have BK184 := n3_;have GW184 := n4_;have GE184 := n5_;have NB0_184 := n6_;have NB184_0 := n7_;clear n0_ n1_ n2_ n3_ n4_ n5_ n6_ n7_;clear hb hbox hg) | ((with_reducible refine gate_callee (f := 15) rfl ?_);refine goesL_ (some 8) rfl rfl Try.func15 (by kernel_rfl) rfl #[.pointer (some ⟨g,0,none⟩),.int .i64 8] rfl (by (try simp only [List.map_toArray,List.map_cons,List.map_nil]);first | done | rfl | (simp only [List.length_drop,List.length_take];rfl)) ?_;(with_reducible refine (spec_l1Below.calls g s0_0 s0_1 s0_2 8 t185 t186 t187 w0 _ ?side1 ?side2 A3.out).mono ?_);(case side1 => repeat (first | (with_reducible first | exact HI0.out | apply IsS47.alloc | apply IsS47.drewN | apply IsS47.drew | apply IsS47.set_1 | apply IsS47.set_2 | refine IsS47.far ?_ NB0_184.out _) | exact HI0.out));(case side2 => repeat (first | (with_reducible first | exact HB.out | apply below_alloc | apply pw_below_drewN | apply below_drew1 | refine below_set ?_ (IsS47.ge HI0.out) | refine below_set ?_ GE184.out) | exact HB.out));rintro e w6 ⟨rfl,hi,hb,hk⟩;refine ⟨_,rfl,?_⟩;have n0_ := Aside0.mk (KeepBut.blk hk (g' := gb184) (o := .cells #[.int .i64 0,.int .i64 0,.string (⟨#[]⟩ : ByteArray),.slice none 0 0] 27 (0,0)) (by (with_reducible repeat (first | refine blk_drewN ?_ _ | refine blk_drew ?_ | refine blk_alloc ?_ _));exact BK184.out) NB184_0.out (by simp));have n1_ := Aside0.mk (KeepBut.trans (by repeat (first | (with_reducible first | exact HK.out | apply KeepBut.set_ | apply keep_drewN | apply keep_drew | apply keep_alloc | refine keep_far ?_ GW184.out _) | exact HK.out)) hk (.inl rfl));have n2_ := Aside0.mk (hb);have n3_ := Aside0.mk (hi);clear BK184;clear HK;clear HB;clear HI0;have BK184 := n0_;have HK := n1_;have HB := n2_;have HI0 := n3_;clear n0_ n1_ n2_ n3_;(try clear hb);(try clear hb2);(try clear hk);(try clear hi)))
 (try simp only [Act.put,List.setIfInBounds_toArray,List.set_cons_zero,List.set_cons_succ])
 go_cut [9] (fun v9 wc => ∃ (kq : Nat) (x9_3 : Bool),v9 = .bool x9_3 ∧ Aside0 (spec_l2Draw.j0 kq a1 t185 x9_3 s0_0 t186 t187 = some (r1,r2,r3,r4,r5,r6)) ∧ Aside0 (kq ≤ k) ∧ Aside0 (wc.heap[gb184]? = some (.cells #[.int .i64 0,.int .i64 0,.string (⟨#[]⟩ : ByteArray),(.slice none 0 0)] 27 (0,0))) ∧ Aside0 (IsS47 w0 wc g s0_0 t186 t187) ∧ Aside0 (KeepBut w wc g none) ∧ Aside0 (Below w0.heap.size w0 wc))
 case first =>
  have H := HC4.out
  clear HC4
  by_cases c7 : t185 = 0
  ·rw [if_pos c7] at H
   have c7b0 : (t185 == 0) = true := beq_iff_eq.mpr c7
   have c7b1 : (t185 != 0) = false := bne_eq_false_iff_eq.mpr c7
   clear c7
   (first | rw [c7b0] | (simp only [i64_w,i32_w];rw [c7b0]) | (simp only [c7b2,Bool.not_true,Bool.not_false]) | skip)
   have H' := Aside0.mk H
   clear H
   go_wp2
   go_meet
   case rel => exact ⟨_,((t185 == 0)),(by first | rfl | (simp;done) | (simp [*];done)),H',⟨by first | omega | exact Nat.le_refl _⟩,⟨by (with_reducible repeat (first | refine blk_drewN ?_ _ | refine blk_drew ?_ | refine blk_alloc ?_ _));exact BK184.out⟩,⟨by repeat (first | (with_reducible first | exact HI0.out | apply IsS47.alloc | apply IsS47.drewN | apply IsS47.drew | apply IsS47.set_1 | apply IsS47.set_2 | refine IsS47.far ?_ NB0_184.out _) | exact HI0.out)⟩,⟨by repeat (first | (with_reducible first | exact HK.out | apply KeepBut.set_ | apply keep_drewN | apply keep_drew | apply keep_alloc | refine keep_far ?_ GW184.out _) | exact HK.out)⟩,⟨by repeat (first | (with_reducible first | exact HB.out | apply below_alloc | apply pw_below_drewN | apply below_drew1 | refine below_set ?_ (IsS47.ge HI0.out) | refine below_set ?_ GE184.out) | exact HB.out)⟩⟩
  ·rw [if_neg c7] at H
   have c7b0 : (t185 == 0) = false := beq_eq_false_iff_ne.mpr c7
   have c7b1 : (t185 != 0) = true := bne_iff_ne.mpr c7
   (first | rw [c7b0] | (simp only [i64_w,i32_w];rw [c7b0]) | (simp only [c7b2,Bool.not_true,Bool.not_false]) | skip)
   by_cases c8 : t185 = 1
   ·rw [if_pos c8] at H
    have c8b0 : (t185 == 1) = true := beq_iff_eq.mpr c8
    have c8b1 : (t185 != 1) = false := bne_eq_false_iff_eq.mpr c8
    clear c8
    have H' := Aside0.mk H
    clear H
    go_wp2
    go_meet
    case rel => exact ⟨_,((t185 == 1)),(by first | rfl | (simp;done) | (simp [*];done)),H',⟨by first | omega | exact Nat.le_refl _⟩,⟨by (with_reducible repeat (first | refine blk_drewN ?_ _ | refine blk_drew ?_ | refine blk_alloc ?_ _));exact BK184.out⟩,⟨by repeat (first | (with_reducible first | exact HI0.out | apply IsS47.alloc | apply IsS47.drewN | apply IsS47.drew | apply IsS47.set_1 | apply IsS47.set_2 | refine IsS47.far ?_ NB0_184.out _) | exact HI0.out)⟩,⟨by repeat (first | (with_reducible first | exact HK.out | apply KeepBut.set_ | apply keep_drewN | apply keep_drew | apply keep_alloc | refine keep_far ?_ GW184.out _) | exact HK.out)⟩,⟨by repeat (first | (with_reducible first | exact HB.out | apply below_alloc | apply pw_below_drewN | apply below_drew1 | refine below_set ?_ (IsS47.ge HI0.out) | refine below_set ?_ GE184.out) | exact HB.out)⟩⟩
   ·rw [if_neg c8] at H
    have c8b0 : (t185 == 1) = false := beq_eq_false_iff_ne.mpr c8
    have c8b1 : (t185 != 1) = true := bne_iff_ne.mpr c8
    have H' := Aside0.mk H
    clear H
    go_wp2
    go_meet
    case rel => exact ⟨_,((t185 == 2)),(by first | rfl | (simp;done) | (simp [*];done)),H',⟨by first | omega | exact Nat.le_refl _⟩,⟨by (with_reducible repeat (first | refine blk_drewN ?_ _ | refine blk_drew ?_ | refine blk_alloc ?_ _));exact BK184.out⟩,⟨by repeat (first | (with_reducible first | exact HI0.out | apply IsS47.alloc | apply IsS47.drewN | apply IsS47.drew | apply IsS47.set_1 | apply IsS47.set_2 | refine IsS47.far ?_ NB0_184.out _) | exact HI0.out)⟩,⟨by repeat (first | (with_reducible first | exact HK.out | apply KeepBut.set_ | apply keep_drewN | apply keep_drew | apply keep_alloc | refine keep_far ?_ GW184.out _) | exact HK.out)⟩,⟨by repeat (first | (with_reducible first | exact HB.out | apply below_alloc | apply pw_below_drewN | apply below_drew1 | refine below_set ?_ (IsS47.ge HI0.out) | refine below_set ?_ GE184.out) | exact HB.out)⟩⟩
 case rest =>
  clear HC4
  try clear c1
  try clear p2
  try clear c7
  try clear c7b0
  try clear c7b1
  try clear c7b2
  try clear c8
  try clear c8b0
  try clear c8b1
  try clear BK184
  try clear HI0
  try clear HK
  try clear HB
  obtain ⟨kq,x9_3,rfl,HA,HJ3,BK184,HI0,HK,HB⟩ := hcut
  cases kq with
  | zero => exact absurd HA.out (by simp [spec_l2Draw.j0])
  | succ kj3 =>
   have H := HA.out
   clear HA
   simp only [spec_l2Draw.j0] at H
   by_cases c9 : x9_3 = true
   ·subst c9
    have H1 : ((spec_l1Below.f s0_0 t186 t187 1000).bind fun bt188 => ((spec_l1Int.f s0_0 bt188.2.1 bt188.2.2 (([0,1,2,(-1),7,1000000000000,(-1000000000000),bt188.1] : List Int))).bind fun bt194 => (some (1,bt194.1,(⟨#[]⟩ : ByteArray),([] : List (S27)),bt194.2.1,bt194.2.2)))) = some (r1,r2,r3,r4,r5,r6) := by rw [if_pos rfl] at H;exact H
    clear H
    have H := H1
    clear H1
    replace H := Option.bind_eq_some_iff.mp H
    obtain ⟨⟨t188,t189,t190⟩,A100,H⟩ := H
    replace H : ((spec_l1Int.f s0_0 t189 t190 (([0,1,2,(-1),7,1000000000000,(-1000000000000),t188] : List Int))).bind fun bt194 => (some (1,bt194.1,(⟨#[]⟩ : ByteArray),([] : List (S27)),bt194.2.1,bt194.2.2))) = some (r1,r2,r3,r4,r5,r6) := H
    have A10 := Aside0.mk A100
    clear A100
    obtain ⟨y191,hy191⟩ : ∃ y_ : List Int,y_ = (([0,1,2,(-1),7,1000000000000,(-1000000000000),t188] : List Int)) := ⟨_,rfl⟩
    replace H : ((spec_l1Int.f s0_0 t189 t190 y191).bind fun bt194 => (some (1,bt194.1,(⟨#[]⟩ : ByteArray),([] : List (S27)),bt194.2.1,bt194.2.2))) = some (r1,r2,r3,r4,r5,r6) := by first | (rw [hy191];with_reducible exact H) | (have H2_ := (Option.bind_some _ _).symm.trans H;rw [hy191];with_reducible exact H2_) | (have H2_ := (Option.bind_some _ _).symm.trans H;with_reducible exact H2_) | with_reducible exact H | (rw [hy191];exact H) | exact H
    have Ny191 := Aside0.mk hy191
    clear hy191
    replace H := Option.bind_eq_some_iff.mp H
    obtain ⟨⟨t194,t195,t196⟩,A110,H⟩ := H
    replace H : (some (1,t194,(⟨#[]⟩ : ByteArray),([] : List (S27)),t195,t196)) = some (r1,r2,r3,r4,r5,r6) := H
    have A11 := Aside0.mk A110
    clear A110
    simp only [Option.some.injEq,Prod.mk.injEq] at H
    obtain ⟨rfl,rfl,rfl,rfl,rfl,rfl⟩ := H
    go_wp2_with (first | ((with_reducible refine gate_callee (f := 15) rfl ?_);refine goesL_ (some 15) rfl rfl Try.func15 (by kernel_rfl) rfl #[.pointer (some ⟨g,0,none⟩),.int .i64 1000] rfl (by (try simp only [List.map_toArray,List.map_cons,List.map_nil]);first | done | rfl | (simp only [List.length_drop,List.length_take];rfl)) ?_;(with_reducible refine (spec_l1Below.calls g s0_0 t186 t187 1000 t188 t189 t190 w0 _ ?side1 ?side2 A10.out).mono ?_);(case side1 => repeat (first | (with_reducible first | exact HI0.out | apply IsS47.alloc | apply IsS47.drewN | apply IsS47.drew | apply IsS47.set_1 | apply IsS47.set_2 | refine IsS47.far ?_ NB0_184.out _) | exact HI0.out));(case side2 => repeat (first | (with_reducible first | exact HB.out | apply below_alloc | apply pw_below_drewN | apply below_drew1 | refine below_set ?_ (IsS47.ge HI0.out) | refine below_set ?_ GE184.out) | exact HB.out));rintro e w12 ⟨rfl,hi,hb,hk⟩;refine ⟨_,rfl,?_⟩;have n0_ := Aside0.mk (KeepBut.blk hk (g' := gb184) (o := .cells #[.int .i64 0,.int .i64 0,.string (⟨#[]⟩ : ByteArray),.slice none 0 0] 27 (0,0)) (by (with_reducible repeat (first | refine blk_drewN ?_ _ | refine blk_drew ?_ | refine blk_alloc ?_ _));exact BK184.out) NB184_0.out (by simp));have n1_ := Aside0.mk (KeepBut.trans (by repeat (first | (with_reducible first | exact HK.out | apply KeepBut.set_ | apply keep_drewN | apply keep_drew | apply keep_alloc | refine keep_far ?_ GW184.out _) | exact HK.out)) hk (.inl rfl));have n2_ := Aside0.mk (hb);have n3_ := Aside0.mk (hi);clear BK184;clear HK;clear HB;clear HI0;have BK184 := n0_;have HK := n1_;have HB := n2_;have HI0 := n3_;clear n0_ n1_ n2_ n3_;(try clear hb);(try clear hb2);(try clear hk);(try clear hi)) | ((with_reducible refine gate_dst (N := 16) rfl ?_);refine Kd.R_lit (Kd.int .i64) _ 3 ?hg (N := 16) ?hd (xs := ([0,1,2,(-1),7,1000000000000,(-1000000000000),t188] : List Int)) (inner := [.int .i64 0,.int .i64 1,.int .i64 2,.int .i64 (-1),.int .i64 7,.int .i64 1000000000000,.int .i64 (-1000000000000),.int .i64 t188]) (ok := fun _ => True) (okp := fun _ => True) ?hr ?hp (fun _ hk => hk) trivial (Below.refl _ _) (Nat.le_refl _) (by simp) ?_;(case hd => rfl);(case hg => rfl);(case hr => first | (go_simp;done) | (go_simp;rfl));(case hp => exact (Reps.one (show Kd.M (Kd.int .i64) _ _ _ 0 [.int .i64 0] from rfl) (Reps.one (show Kd.M (Kd.int .i64) _ _ _ 1 [.int .i64 1] from rfl) (Reps.one (show Kd.M (Kd.int .i64) _ _ _ 2 [.int .i64 2] from rfl) (Reps.one (show Kd.M (Kd.int .i64) _ _ _ (-1) [.int .i64 (-1)] from rfl) (Reps.one (show Kd.M (Kd.int .i64) _ _ _ 7 [.int .i64 7] from rfl) (Reps.one (show Kd.M (Kd.int .i64) _ _ _ 1000000000000 [.int .i64 1000000000000] from rfl) (Reps.one (show Kd.M (Kd.int .i64) _ _ _ (-1000000000000) [.int .i64 (-1000000000000)] from rfl) (Reps.one (show Kd.M (Kd.int .i64) _ _ _ t188 [.int .i64 t188] from rfl) (Reps.none _ _))))))))));intro v192 w13 ho14 hb hg_ hnew_;clear hg_ hnew_;(first | rw [← Ny191.out] at ho14 | (simp only [Int.reduceToNat] at ho14;rw [← Ny191.out] at ho14));have n0_ := Aside0.mk (Kd.R_lower ho14 (keep_size (w := w) (g := g) (row := none) (by repeat (first | (with_reducible first | exact HK.out | apply KeepBut.set_ | apply keep_drewN | apply keep_drew | apply keep_alloc | refine keep_far ?_ GW184.out _) | exact HK.out))));have n1_ := Aside0.mk (blk_below (g := gb184) (o := .cells #[.int .i64 0,.int .i64 0,.string (⟨#[]⟩ : ByteArray),.slice none 0 0] 27 (0,0)) (by (with_reducible repeat (first | refine blk_drewN ?_ _ | refine blk_drew ?_ | refine blk_alloc ?_ _));exact BK184.out) hb);have n2_ := Aside0.mk (IsS47.below (by repeat (first | (with_reducible first | exact HI0.out | apply IsS47.alloc | apply IsS47.drewN | apply IsS47.drew | apply IsS47.set_1 | apply IsS47.set_2 | refine IsS47.far ?_ NB0_184.out _) | exact HI0.out)) hb);have n3_ := Aside0.mk (KeepBut.trans (by repeat (first | (with_reducible first | exact HK.out | apply KeepBut.set_ | apply keep_drewN | apply keep_drew | apply keep_alloc | refine keep_far ?_ GW184.out _) | exact HK.out)) (KeepBut.of_below hb g none) (.inl rfl));have n4_ := Aside0.mk (below_step (by repeat (first | (with_reducible first | exact HB.out | apply below_alloc | apply pw_below_drewN | apply below_drew1 | refine below_set ?_ (IsS47.ge HI0.out) | refine below_set ?_ GE184.out) | exact HB.out)) hb);clear BK184;clear HI0;clear HK;clear HB;have HO193 := n0_;have BK184 := n1_;have HI0 := n2_;have HK := n3_;have HB := n4_;clear n0_ n1_ n2_ n3_ n4_;clear hb ho14;obtain ⟨Ao15,co15,eo15⟩ := Kd.R_slice HO193.out;subst eo15) | ((with_reducible refine gate_callee (f := 16) rfl ?_);refine goesL_ (some 17) rfl rfl Try.func16 (by kernel_rfl) rfl #[.pointer (some ⟨g,0,none⟩),.slice Ao15 y191.length co15] rfl (by (try simp only [List.map_toArray,List.map_cons,List.map_nil]);first | done | rfl | (simp only [List.length_drop,List.length_take];rfl)) ?_;(with_reducible refine (spec_l1Int.calls g s0_0 t189 t190 _ _ y191 t194 t195 t196 w0 _ ?side1 ?side2 ?side3 ?side4 ?side5 A11.out).mono ?_);(case side1 => repeat (first | (with_reducible first | exact HI0.out | apply IsS47.alloc | apply IsS47.drewN | apply IsS47.drew | apply IsS47.set_1 | apply IsS47.set_2 | refine IsS47.far ?_ NB0_184.out _) | exact HI0.out));(case side2 => repeat (first | (with_reducible first | exact HB.out | apply below_alloc | apply pw_below_drewN | apply below_drew1 | refine below_set ?_ (IsS47.ge HI0.out) | refine below_set ?_ GE184.out) | exact HB.out));(case side3 => repeat (first | exact (Kd.R_reads' HO193.out).2.2 | (with_reducible refine Kd.C_alloc ?_ _) | (with_reducible refine Kd.C_drewN ?_ _) | (with_reducible refine Kd.C_drew ?_)));(case side4 => exact (Kd.R_reads' HO193.out).2.1);(case side5 => exact far_slice (IsS47.own_ne HI0.out HO193.out (by decide)));rintro e w16 ⟨rfl,hi,hb,hk⟩;refine ⟨_,rfl,?_⟩;have n0_ := Aside0.mk (KeepBut.blk hk (g' := gb184) (o := .cells #[.int .i64 0,.int .i64 0,.string (⟨#[]⟩ : ByteArray),.slice none 0 0] 27 (0,0)) (by (with_reducible repeat (first | refine blk_drewN ?_ _ | refine blk_drew ?_ | refine blk_alloc ?_ _));exact BK184.out) NB184_0.out (by simp));have n1_ := Aside0.mk (Kd.R_mono (Kd.R_keep (IsS47.apart (show IsS47 w0 _ g s0_0 t189 t190 from by repeat (first | (with_reducible first | exact HI0.out | apply IsS47.alloc | apply IsS47.drewN | apply IsS47.drew | apply IsS47.set_1 | apply IsS47.set_2 | refine IsS47.far ?_ NB0_184.out _) | exact HI0.out)) (by (with_reducible repeat (first | apply Kd.R_alloc | apply Kd.R_drewN | apply Kd.R_drew));exact HO193.out) (by decide)) hk (fun _ h => h.2)) (fun _ h => h.1));have n2_ := Aside0.mk (KeepBut.trans (by repeat (first | (with_reducible first | exact HK.out | apply KeepBut.set_ | apply keep_drewN | apply keep_drew | apply keep_alloc | refine keep_far ?_ GW184.out _) | exact HK.out)) hk (.inl rfl));have n3_ := Aside0.mk (hb);have n4_ := Aside0.mk (hi);clear BK184;clear HO193;clear HK;clear HB;clear HI0;have BK184 := n0_;have HO193 := n1_;have HK := n2_;have HB := n3_;have HI0 := n4_;clear n0_ n1_ n2_ n3_ n4_;(try clear hb);(try clear hb2);(try clear hk);(try clear hi);have hnb17 := NB184_0.out;have hnc17 := NB0_184.out;have hcz18_0 : w16.cell? ⟨gb184,0,none⟩ = some (.int .i64 0) := (blk_cell BK184.out 0).trans rfl;have hcz18_1 : w16.cell? ⟨gb184,1,none⟩ = some (.int .i64 0) := (blk_cell BK184.out 1).trans rfl;have hcz18_2 : w16.cell? ⟨gb184,2,none⟩ = some (.string (⟨#[]⟩ : ByteArray)) := (blk_cell BK184.out 2).trans rfl;have hcz18_3 : w16.cell? ⟨gb184,3,none⟩ = some (.slice none 0 0) := (blk_cell BK184.out 3).trans rfl;have hfz18_0 := blk_frozen BK184.out 0;have hfz18_1 := blk_frozen BK184.out 1;have hfz18_2 := blk_frozen BK184.out 2;have hfz18_3 := blk_frozen BK184.out 3))
    refine bodyPost_ret (results_cell_row rfl _ _ gb184 27 #[.int .i64 1,.int .i64 t194,.string (⟨#[]⟩ : ByteArray),.slice none 0 0] (0,0) _ rfl (by (with_reducible repeat (first | refine blk_drewN ?_ _ | refine blk_drew ?_ | refine blk_alloc ?_ _));refine blk_put (cs := #[.int .i64 1,.int .i64 t194,.string (⟨#[]⟩ : ByteArray),.slice none 0 0]) ?_ 3 _ rfl;(with_reducible repeat (first | refine blk_drewN ?_ _ | refine blk_drew ?_ | refine blk_alloc ?_ _));refine blk_put (cs := #[.int .i64 1,.int .i64 t194,.string (⟨#[]⟩ : ByteArray),.slice none 0 0]) ?_ 2 _ rfl;(with_reducible repeat (first | refine blk_drewN ?_ _ | refine blk_drew ?_ | refine blk_alloc ?_ _));refine blk_put (cs := #[.int .i64 1,.int .i64 0,.string (⟨#[]⟩ : ByteArray),.slice none 0 0]) ?_ 1 _ rfl;(with_reducible repeat (first | refine blk_drewN ?_ _ | refine blk_drew ?_ | refine blk_alloc ?_ _));refine blk_put (cs := #[.int .i64 0,.int .i64 0,.string (⟨#[]⟩ : ByteArray),.slice none 0 0]) ?_ 0 _ rfl;(with_reducible repeat (first | refine blk_drewN ?_ _ | refine blk_drew ?_ | refine blk_alloc ?_ _));exact BK184.out) Try.underlying27 rfl (by kernel_rfl)) rfl ?_
    exact ⟨_,by first | rfl | (simp [*,errW_none,errW_some] <;> rfl),by first | exact Kd.R_nil _ _ _ _ _ | exact Kd.N_nil _ _ _ _ _ | exact Kd.V_nil _ _ _ _ _ | exact Kd.Q_nil _ _ _ _ _ | exact Kd.S_nil _ _ _ _ _,by repeat (first | (with_reducible first | exact HI0.out | apply IsS47.alloc | apply IsS47.drewN | apply IsS47.drew | apply IsS47.set_1 | apply IsS47.set_2 | refine IsS47.far ?_ NB0_184.out _) | exact HI0.out),by repeat (first | (with_reducible first | exact HB.out | apply below_alloc | apply pw_below_drewN | apply below_drew1 | refine below_set ?_ (IsS47.ge HI0.out) | refine below_set ?_ GE184.out) | exact HB.out),by repeat (first | (with_reducible first | exact HK.out | apply KeepBut.set_ | apply keep_drewN | apply keep_drew | apply keep_alloc | refine keep_far ?_ GW184.out _) | exact HK.out)⟩
   ·replace c9 := Bool.eq_false_iff.mpr c9
    subst c9
    have H1 : (if t185 = 3 then (spec_l2Draw.j1 kj3 a1 t185 (t185 == 3) s0_0 t186 t187) else (spec_l2Draw.j1 kj3 a1 t185 (t185 == 4) s0_0 t186 t187)) = some (r1,r2,r3,r4,r5,r6) := by rw [if_neg (show ¬ (false = true) by decide)] at H;exact H
    clear H
    have H := H1
    clear H1
    have HC19 := Aside0.mk H
    clear H
    go_upto_if 19 with (fail)
    go_cut [19] (fun v19 wc => ∃ (kq : Nat) (x19_18 : Bool),v19 = .bool x19_18 ∧ Aside0 (spec_l2Draw.j1 kq a1 t185 x19_18 s0_0 t186 t187 = some (r1,r2,r3,r4,r5,r6)) ∧ Aside0 (kq ≤ kj3) ∧ Aside0 (wc.heap[gb184]? = some (.cells #[.int .i64 0,.int .i64 0,.string (⟨#[]⟩ : ByteArray),(.slice none 0 0)] 27 (0,0))) ∧ Aside0 (IsS47 w0 wc g s0_0 t186 t187) ∧ Aside0 (KeepBut w wc g none) ∧ Aside0 (Below w0.heap.size w0 wc))
    case first =>
     have H := HC19.out
     clear HC19
     by_cases c20 : t185 = 3
     ·rw [if_pos c20] at H
      have c20b0 : (t185 == 3) = true := beq_iff_eq.mpr c20
      have c20b1 : (t185 != 3) = false := bne_eq_false_iff_eq.mpr c20
      clear c20
      (first | rw [c20b0] | (simp only [i64_w,i32_w];rw [c20b0]) | (simp only [c20b2,Bool.not_true,Bool.not_false]) | skip)
      have H' := Aside0.mk H
      clear H
      go_wp2
      go_meet
      case rel => exact ⟨_,((t185 == 3)),(by first | rfl | (simp;done) | (simp [*];done)),H',⟨by have := HJ3.out;first | omega | exact Nat.le_refl _⟩,⟨by (with_reducible repeat (first | refine blk_drewN ?_ _ | refine blk_drew ?_ | refine blk_alloc ?_ _));exact BK184.out⟩,⟨by repeat (first | (with_reducible first | exact HI0.out | apply IsS47.alloc | apply IsS47.drewN | apply IsS47.drew | apply IsS47.set_1 | apply IsS47.set_2 | refine IsS47.far ?_ NB0_184.out _) | exact HI0.out)⟩,⟨by repeat (first | (with_reducible first | exact HK.out | apply KeepBut.set_ | apply keep_drewN | apply keep_drew | apply keep_alloc | refine keep_far ?_ GW184.out _) | exact HK.out)⟩,⟨by repeat (first | (with_reducible first | exact HB.out | apply below_alloc | apply pw_below_drewN | apply below_drew1 | refine below_set ?_ (IsS47.ge HI0.out) | refine below_set ?_ GE184.out) | exact HB.out)⟩⟩
     ·rw [if_neg c20] at H
      have c20b0 : (t185 == 3) = false := beq_eq_false_iff_ne.mpr c20
      have c20b1 : (t185 != 3) = true := bne_iff_ne.mpr c20
      (first | rw [c20b0] | (simp only [i64_w,i32_w];rw [c20b0]) | (simp only [c20b2,Bool.not_true,Bool.not_false]) | skip)
      have H' := Aside0.mk H
      clear H
      go_wp2
      go_meet
      case rel => exact ⟨_,((t185 == 4)),(by first | rfl | (simp;done) | (simp [*];done)),H',⟨by have := HJ3.out;first | omega | exact Nat.le_refl _⟩,⟨by (with_reducible repeat (first | refine blk_drewN ?_ _ | refine blk_drew ?_ | refine blk_alloc ?_ _));exact BK184.out⟩,⟨by repeat (first | (with_reducible first | exact HI0.out | apply IsS47.alloc | apply IsS47.drewN | apply IsS47.drew | apply IsS47.set_1 | apply IsS47.set_2 | refine IsS47.far ?_ NB0_184.out _) | exact HI0.out)⟩,⟨by repeat (first | (with_reducible first | exact HK.out | apply KeepBut.set_ | apply keep_drewN | apply keep_drew | apply keep_alloc | refine keep_far ?_ GW184.out _) | exact HK.out)⟩,⟨by repeat (first | (with_reducible first | exact HB.out | apply below_alloc | apply pw_below_drewN | apply below_drew1 | refine below_set ?_ (IsS47.ge HI0.out) | refine below_set ?_ GE184.out) | exact HB.out)⟩⟩
    case rest =>
     clear HC19
     try clear c1
     try clear c2
     try clear p2
     try clear c7
     try clear c7b0
     try clear c7b1
     try clear c7b2
     try clear c8
     try clear c8b0
     try clear c8b1
     try clear c9
     try clear c14
     try clear c15
     try clear c16
     try clear c17
     try clear c20
     try clear c20b0
     try clear c20b1
     try clear c20b2
     try clear hcz18_0
     try clear hcz18_1
     try clear hcz18_2
     try clear hcz18_3
     try clear hfz18_0
     try clear hfz18_1
     try clear hfz18_2
     try clear hfz18_3
     try clear p2
     try clear BK184
     try clear HI0
     try clear HK
     try clear HB
     obtain ⟨kq,x19_18,rfl,HA,HJ18,BK184,HI0,HK,HB⟩ := hcut
     cases kq with
     | zero => exact absurd HA.out (by simp [spec_l2Draw.j1])
     | succ kj18 =>
      have H := HA.out
      clear HA
      simp only [spec_l2Draw.j1] at H
      by_cases c21 : x19_18 = true
      ·subst c21
       have H1 : ((spec_l1Str.f s0_0 t186 t187 (([(⟨#[111,107]⟩ : ByteArray),(⟨#[115,116,111,112]⟩ : ByteArray),(⟨#[97]⟩ : ByteArray),(⟨#[116,114,117,101]⟩ : ByteArray),(⟨#[97,100,100]⟩ : ByteArray)] : List ByteArray))).bind fun bt200 => (some (2,0,bt200.1,([] : List (S27)),bt200.2.1,bt200.2.2))) = some (r1,r2,r3,r4,r5,r6) := by rw [if_pos rfl] at H;exact H
       clear H
       have H := H1
       clear H1
       obtain ⟨y197,hy197⟩ : ∃ y_ : List ByteArray,y_ = (([(⟨#[111,107]⟩ : ByteArray),(⟨#[115,116,111,112]⟩ : ByteArray),(⟨#[97]⟩ : ByteArray),(⟨#[116,114,117,101]⟩ : ByteArray),(⟨#[97,100,100]⟩ : ByteArray)] : List ByteArray)) := ⟨_,rfl⟩
       replace H : ((spec_l1Str.f s0_0 t186 t187 y197).bind fun bt200 => (some (2,0,bt200.1,([] : List (S27)),bt200.2.1,bt200.2.2))) = some (r1,r2,r3,r4,r5,r6) := by first | (rw [hy197];with_reducible exact H) | (have H2_ := (Option.bind_some _ _).symm.trans H;rw [hy197];with_reducible exact H2_) | (have H2_ := (Option.bind_some _ _).symm.trans H;with_reducible exact H2_) | with_reducible exact H | (rw [hy197];exact H) | exact H
       have Ny197 := Aside0.mk hy197
       clear hy197
       replace H := Option.bind_eq_some_iff.mp H
       obtain ⟨⟨t200,t201,t202⟩,A220,H⟩ := H
       replace H : (some (2,0,t200,([] : List (S27)),t201,t202)) = some (r1,r2,r3,r4,r5,r6) := H
       have A22 := Aside0.mk A220
       clear A220
       simp only [Option.some.injEq,Prod.mk.injEq] at H
       obtain ⟨rfl,rfl,rfl,rfl,rfl,rfl⟩ := H
       go_wp2_with (first | ((with_reducible refine gate_dst (N := 23) rfl ?_);refine Kd.R_lit Kd.string _ 9 ?hg (N := 23) ?hd (xs := ([(⟨#[111,107]⟩ : ByteArray),(⟨#[115,116,111,112]⟩ : ByteArray),(⟨#[97]⟩ : ByteArray),(⟨#[116,114,117,101]⟩ : ByteArray),(⟨#[97,100,100]⟩ : ByteArray)] : List ByteArray)) (inner := [.string (⟨#[111,107]⟩ : ByteArray),.string (⟨#[115,116,111,112]⟩ : ByteArray),.string (⟨#[97]⟩ : ByteArray),.string (⟨#[116,114,117,101]⟩ : ByteArray),.string (⟨#[97,100,100]⟩ : ByteArray)]) (ok := fun _ => True) (okp := fun _ => True) ?hr ?hp (fun _ hk => hk) trivial (Below.refl _ _) (Nat.le_refl _) (by simp) ?_;(case hd => rfl);(case hg => rfl);(case hr => first | (go_simp;done) | (go_simp;rfl));(case hp => exact (Reps.one (show Kd.M Kd.string _ _ _ (⟨#[111,107]⟩ : ByteArray) [.string (⟨#[111,107]⟩ : ByteArray)] from rfl) (Reps.one (show Kd.M Kd.string _ _ _ (⟨#[115,116,111,112]⟩ : ByteArray) [.string (⟨#[115,116,111,112]⟩ : ByteArray)] from rfl) (Reps.one (show Kd.M Kd.string _ _ _ (⟨#[97]⟩ : ByteArray) [.string (⟨#[97]⟩ : ByteArray)] from rfl) (Reps.one (show Kd.M Kd.string _ _ _ (⟨#[116,114,117,101]⟩ : ByteArray) [.string (⟨#[116,114,117,101]⟩ : ByteArray)] from rfl) (Reps.one (show Kd.M Kd.string _ _ _ (⟨#[97,100,100]⟩ : ByteArray) [.string (⟨#[97,100,100]⟩ : ByteArray)] from rfl) (Reps.none _ _)))))));intro v198 w23 ho24 hb hg_ hnew_;clear hg_ hnew_;(first | rw [← Ny197.out] at ho24 | (simp only [Int.reduceToNat] at ho24;rw [← Ny197.out] at ho24));have n0_ := Aside0.mk (Kd.R_lower ho24 (keep_size (w := w) (g := g) (row := none) (by repeat (first | (with_reducible first | exact HK.out | apply KeepBut.set_ | apply keep_drewN | apply keep_drew | apply keep_alloc | refine keep_far ?_ GW184.out _) | exact HK.out))));have n1_ := Aside0.mk (blk_below (g := gb184) (o := .cells #[.int .i64 0,.int .i64 0,.string (⟨#[]⟩ : ByteArray),.slice none 0 0] 27 (0,0)) (by (with_reducible repeat (first | refine blk_drewN ?_ _ | refine blk_drew ?_ | refine blk_alloc ?_ _));exact BK184.out) hb);have n2_ := Aside0.mk (IsS47.below (by repeat (first | (with_reducible first | exact HI0.out | apply IsS47.alloc | apply IsS47.drewN | apply IsS47.drew | apply IsS47.set_1 | apply IsS47.set_2 | refine IsS47.far ?_ NB0_184.out _) | exact HI0.out)) hb);have n3_ := Aside0.mk (KeepBut.trans (by repeat (first | (with_reducible first | exact HK.out | apply KeepBut.set_ | apply keep_drewN | apply keep_drew | apply keep_alloc | refine keep_far ?_ GW184.out _) | exact HK.out)) (KeepBut.of_below hb g none) (.inl rfl));have n4_ := Aside0.mk (below_step (by repeat (first | (with_reducible first | exact HB.out | apply below_alloc | apply pw_below_drewN | apply below_drew1 | refine below_set ?_ (IsS47.ge HI0.out) | refine below_set ?_ GE184.out) | exact HB.out)) hb);clear BK184;clear HI0;clear HK;clear HB;have HO199 := n0_;have BK184 := n1_;have HI0 := n2_;have HK := n3_;have HB := n4_;clear n0_ n1_ n2_ n3_ n4_;clear hb ho24;obtain ⟨Ao25,co25,eo25⟩ := Kd.R_slice HO199.out;subst eo25) | ((with_reducible refine gate_callee (f := 24) rfl ?_);refine goesL_ (some 24) rfl rfl Try.func24 (by kernel_rfl) rfl #[.pointer (some ⟨g,0,none⟩),.slice Ao25 y197.length co25] rfl (by (try simp only [List.map_toArray,List.map_cons,List.map_nil]);first | done | rfl | (simp only [List.length_drop,List.length_take];rfl)) ?_;(with_reducible refine (spec_l1Str.calls g s0_0 t186 t187 _ _ y197 t200 t201 t202 w0 _ ?side1 ?side2 ?side3 ?side4 ?side5 A22.out).mono ?_);(case side1 => repeat (first | (with_reducible first | exact HI0.out | apply IsS47.alloc | apply IsS47.drewN | apply IsS47.drew | apply IsS47.set_1 | apply IsS47.set_2 | refine IsS47.far ?_ NB0_184.out _) | exact HI0.out));(case side2 => repeat (first | (with_reducible first | exact HB.out | apply below_alloc | apply pw_below_drewN | apply below_drew1 | refine below_set ?_ (IsS47.ge HI0.out) | refine below_set ?_ GE184.out) | exact HB.out));(case side3 => repeat (first | exact (Kd.R_reads' HO199.out).2.2 | (with_reducible refine Kd.C_alloc ?_ _) | (with_reducible refine Kd.C_drewN ?_ _) | (with_reducible refine Kd.C_drew ?_)));(case side4 => exact (Kd.R_reads' HO199.out).2.1);(case side5 => exact far_slice (IsS47.own_ne HI0.out HO199.out (by decide)));rintro e w26 ⟨rfl,hi,hb,hk⟩;refine ⟨_,rfl,?_⟩;have n0_ := Aside0.mk (KeepBut.blk hk (g' := gb184) (o := .cells #[.int .i64 0,.int .i64 0,.string (⟨#[]⟩ : ByteArray),.slice none 0 0] 27 (0,0)) (by (with_reducible repeat (first | refine blk_drewN ?_ _ | refine blk_drew ?_ | refine blk_alloc ?_ _));exact BK184.out) NB184_0.out (by simp));have n1_ := Aside0.mk (Kd.R_mono (Kd.R_keep (IsS47.apart (show IsS47 w0 _ g s0_0 t186 t187 from by repeat (first | (with_reducible first | exact HI0.out | apply IsS47.alloc | apply IsS47.drewN | apply IsS47.drew | apply IsS47.set_1 | apply IsS47.set_2 | refine IsS47.far ?_ NB0_184.out _) | exact HI0.out)) (by (with_reducible repeat (first | apply Kd.R_alloc | apply Kd.R_drewN | apply Kd.R_drew));exact HO199.out) (by decide)) hk (fun _ h => h.2)) (fun _ h => h.1));have n2_ := Aside0.mk (KeepBut.trans (by repeat (first | (with_reducible first | exact HK.out | apply KeepBut.set_ | apply keep_drewN | apply keep_drew | apply keep_alloc | refine keep_far ?_ GW184.out _) | exact HK.out)) hk (.inl rfl));have n3_ := Aside0.mk (hb);have n4_ := Aside0.mk (hi);clear BK184;clear HO199;clear HK;clear HB;clear HI0;have BK184 := n0_;have HO199 := n1_;have HK := n2_;have HB := n3_;have HI0 := n4_;clear n0_ n1_ n2_ n3_ n4_;(try clear hb);(try clear hb2);(try clear hk);(try clear hi);have hnb27 := NB184_0.out;have hnc27 := NB0_184.out;have hcz28_0 : w26.cell? ⟨gb184,0,none⟩ = some (.int .i64 0) := (blk_cell BK184.out 0).trans rfl;have hcz28_1 : w26.cell? ⟨gb184,1,none⟩ = some (.int .i64 0) := (blk_cell BK184.out 1).trans rfl;have hcz28_2 : w26.cell? ⟨gb184,2,none⟩ = some (.string (⟨#[]⟩ : ByteArray)) := (blk_cell BK184.out 2).trans rfl;have hcz28_3 : w26.cell? ⟨gb184,3,none⟩ = some (.slice none 0 0) := (blk_cell BK184.out 3).trans rfl;have hfz28_0 := blk_frozen BK184.out 0;have hfz28_1 := blk_frozen BK184.out 1;have hfz28_2 := blk_frozen BK184.out 2;have hfz28_3 := blk_frozen BK184.out 3))
       refine bodyPost_ret (results_cell_row rfl _ _ gb184 27 #[.int .i64 2,.int .i64 0,.string t200,.slice none 0 0] (0,0) _ rfl (by (with_reducible repeat (first | refine blk_drewN ?_ _ | refine blk_drew ?_ | refine blk_alloc ?_ _));refine blk_put (cs := #[.int .i64 2,.int .i64 0,.string t200,.slice none 0 0]) ?_ 3 _ rfl;(with_reducible repeat (first | refine blk_drewN ?_ _ | refine blk_drew ?_ | refine blk_alloc ?_ _));refine blk_put (cs := #[.int .i64 2,.int .i64 0,.string (⟨#[]⟩ : ByteArray),.slice none 0 0]) ?_ 2 _ rfl;(with_reducible repeat (first | refine blk_drewN ?_ _ | refine blk_drew ?_ | refine blk_alloc ?_ _));refine blk_put (cs := #[.int .i64 2,.int .i64 0,.string (⟨#[]⟩ : ByteArray),.slice none 0 0]) ?_ 1 _ rfl;(with_reducible repeat (first | refine blk_drewN ?_ _ | refine blk_drew ?_ | refine blk_alloc ?_ _));refine blk_put (cs := #[.int .i64 0,.int .i64 0,.string (⟨#[]⟩ : ByteArray),.slice none 0 0]) ?_ 0 _ rfl;(with_reducible repeat (first | refine blk_drewN ?_ _ | refine blk_drew ?_ | refine blk_alloc ?_ _));exact BK184.out) Try.underlying27 rfl (by kernel_rfl)) rfl ?_
       exact ⟨_,by first | rfl | (simp [*,errW_none,errW_some] <;> rfl),by first | exact Kd.R_nil _ _ _ _ _ | exact Kd.N_nil _ _ _ _ _ | exact Kd.V_nil _ _ _ _ _ | exact Kd.Q_nil _ _ _ _ _ | exact Kd.S_nil _ _ _ _ _,by repeat (first | (with_reducible first | exact HI0.out | apply IsS47.alloc | apply IsS47.drewN | apply IsS47.drew | apply IsS47.set_1 | apply IsS47.set_2 | refine IsS47.far ?_ NB0_184.out _) | exact HI0.out),by repeat (first | (with_reducible first | exact HB.out | apply below_alloc | apply pw_below_drewN | apply below_drew1 | refine below_set ?_ (IsS47.ge HI0.out) | refine below_set ?_ GE184.out) | exact HB.out),by repeat (first | (with_reducible first | exact HK.out | apply KeepBut.set_ | apply keep_drewN | apply keep_drew | apply keep_alloc | refine keep_far ?_ GW184.out _) | exact HK.out)⟩
      ·replace c21 := Bool.eq_false_iff.mpr c21
       subst c21
       have H1 : (if t185 = 5 then ((spec_l1Below.f s0_0 t186 t187 5).bind fun bt203 => (some (3,bt203.1,(⟨#[]⟩ : ByteArray),([] : List (S27)),bt203.2.1,bt203.2.2))) else ((spec_l1Int.f s0_0 t186 t187 (([4,5] : List Int))).bind fun bt209 => ((spec_l1Below.f s0_0 bt209.2.1 bt209.2.2 4).bind fun bt213 => (spec_l2Draw.l0 kj18 a1 bt213.1 s0_0 bt213.2.1 bt213.2.2 bt209.1 0 (⟨#[]⟩ : ByteArray) ([] : List (S27)))))) = some (r1,r2,r3,r4,r5,r6) := by rw [if_neg (show ¬ (false = true) by decide)] at H;exact H
       clear H
       have H := H1
       clear H1
       by_cases c29 : t185 = 5
       ·rw [if_pos c29] at H
        have c29b0 : (t185 == 5) = true := beq_iff_eq.mpr c29
        have c29b1 : (t185 != 5) = false := bne_eq_false_iff_eq.mpr c29
        clear c29
        replace H := Option.bind_eq_some_iff.mp H
        obtain ⟨⟨t203,t204,t205⟩,A300,H⟩ := H
        replace H : (some (3,t203,(⟨#[]⟩ : ByteArray),([] : List (S27)),t204,t205)) = some (r1,r2,r3,r4,r5,r6) := H
        have A30 := Aside0.mk A300
        clear A300
        simp only [Option.some.injEq,Prod.mk.injEq] at H
        obtain ⟨rfl,rfl,rfl,rfl,rfl,rfl⟩ := H
        go_wp2_with (first | ((with_reducible refine gate_callee (f := 15) rfl ?_);refine goesL_ (some 29) rfl rfl Try.func15 (by kernel_rfl) rfl #[.pointer (some ⟨g,0,none⟩),.int .i64 5] rfl (by (try simp only [List.map_toArray,List.map_cons,List.map_nil]);first | done | rfl | (simp only [List.length_drop,List.length_take];rfl)) ?_;(with_reducible refine (spec_l1Below.calls g s0_0 t186 t187 5 t203 t204 t205 w0 _ ?side1 ?side2 A30.out).mono ?_);(case side1 => repeat (first | (with_reducible first | exact HI0.out | apply IsS47.alloc | apply IsS47.drewN | apply IsS47.drew | apply IsS47.set_1 | apply IsS47.set_2 | refine IsS47.far ?_ NB0_184.out _) | exact HI0.out));(case side2 => repeat (first | (with_reducible first | exact HB.out | apply below_alloc | apply pw_below_drewN | apply below_drew1 | refine below_set ?_ (IsS47.ge HI0.out) | refine below_set ?_ GE184.out) | exact HB.out));rintro e w31 ⟨rfl,hi,hb,hk⟩;refine ⟨_,rfl,?_⟩;have n0_ := Aside0.mk (KeepBut.blk hk (g' := gb184) (o := .cells #[.int .i64 0,.int .i64 0,.string (⟨#[]⟩ : ByteArray),.slice none 0 0] 27 (0,0)) (by (with_reducible repeat (first | refine blk_drewN ?_ _ | refine blk_drew ?_ | refine blk_alloc ?_ _));exact BK184.out) NB184_0.out (by simp));have n1_ := Aside0.mk (KeepBut.trans (by repeat (first | (with_reducible first | exact HK.out | apply KeepBut.set_ | apply keep_drewN | apply keep_drew | apply keep_alloc | refine keep_far ?_ GW184.out _) | exact HK.out)) hk (.inl rfl));have n2_ := Aside0.mk (hb);have n3_ := Aside0.mk (hi);clear BK184;clear HK;clear HB;clear HI0;have BK184 := n0_;have HK := n1_;have HB := n2_;have HI0 := n3_;clear n0_ n1_ n2_ n3_;(try clear hb);(try clear hb2);(try clear hk);(try clear hi);have hnb32 := NB184_0.out;have hnc32 := NB0_184.out;have hcz33_0 : w31.cell? ⟨gb184,0,none⟩ = some (.int .i64 0) := (blk_cell BK184.out 0).trans rfl;have hcz33_1 : w31.cell? ⟨gb184,1,none⟩ = some (.int .i64 0) := (blk_cell BK184.out 1).trans rfl;have hcz33_2 : w31.cell? ⟨gb184,2,none⟩ = some (.string (⟨#[]⟩ : ByteArray)) := (blk_cell BK184.out 2).trans rfl;have hcz33_3 : w31.cell? ⟨gb184,3,none⟩ = some (.slice none 0 0) := (blk_cell BK184.out 3).trans rfl;have hfz33_0 := blk_frozen BK184.out 0;have hfz33_1 := blk_frozen BK184.out 1;have hfz33_2 := blk_frozen BK184.out 2;have hfz33_3 := blk_frozen BK184.out 3))
        refine bodyPost_ret (results_cell_row rfl _ _ gb184 27 #[.int .i64 3,.int .i64 t203,.string (⟨#[]⟩ : ByteArray),.slice none 0 0] (0,0) _ rfl (by (with_reducible repeat (first | refine blk_drewN ?_ _ | refine blk_drew ?_ | refine blk_alloc ?_ _));refine blk_put (cs := #[.int .i64 3,.int .i64 t203,.string (⟨#[]⟩ : ByteArray),.slice none 0 0]) ?_ 3 _ rfl;(with_reducible repeat (first | refine blk_drewN ?_ _ | refine blk_drew ?_ | refine blk_alloc ?_ _));refine blk_put (cs := #[.int .i64 3,.int .i64 t203,.string (⟨#[]⟩ : ByteArray),.slice none 0 0]) ?_ 2 _ rfl;(with_reducible repeat (first | refine blk_drewN ?_ _ | refine blk_drew ?_ | refine blk_alloc ?_ _));refine blk_put (cs := #[.int .i64 3,.int .i64 0,.string (⟨#[]⟩ : ByteArray),.slice none 0 0]) ?_ 1 _ rfl;(with_reducible repeat (first | refine blk_drewN ?_ _ | refine blk_drew ?_ | refine blk_alloc ?_ _));refine blk_put (cs := #[.int .i64 0,.int .i64 0,.string (⟨#[]⟩ : ByteArray),.slice none 0 0]) ?_ 0 _ rfl;(with_reducible repeat (first | refine blk_drewN ?_ _ | refine blk_drew ?_ | refine blk_alloc ?_ _));exact BK184.out) Try.underlying27 rfl (by kernel_rfl)) rfl ?_
        exact ⟨_,by first | rfl | (simp [*,errW_none,errW_some] <;> rfl),by first | exact Kd.R_nil _ _ _ _ _ | exact Kd.N_nil _ _ _ _ _ | exact Kd.V_nil _ _ _ _ _ | exact Kd.Q_nil _ _ _ _ _ | exact Kd.S_nil _ _ _ _ _,by repeat (first | (with_reducible first | exact HI0.out | apply IsS47.alloc | apply IsS47.drewN | apply IsS47.drew | apply IsS47.set_1 | apply IsS47.set_2 | refine IsS47.far ?_ NB0_184.out _) | exact HI0.out),by repeat (first | (with_reducible first | exact HB.out | apply below_alloc | apply pw_below_drewN | apply below_drew1 | refine below_set ?_ (IsS47.ge HI0.out) | refine below_set ?_ GE184.out) | exact HB.out),by repeat (first | (with_reducible first | exact HK.out | apply KeepBut.set_ | apply keep_drewN | apply keep_drew | apply keep_alloc | refine keep_far ?_ GW184.out _) | exact HK.out)⟩
       ·rw [if_neg c29] at H
        have c29b0 : (t185 == 5) = false := beq_eq_false_iff_ne.mpr c29
        have c29b1 : (t185 != 5) = true := bne_iff_ne.mpr c29
        obtain ⟨y206,hy206⟩ : ∃ y_ : List Int,y_ = (([4,5] : List Int)) := ⟨_,rfl⟩
        replace H : ((spec_l1Int.f s0_0 t186 t187 y206).bind fun bt209 => ((spec_l1Below.f s0_0 bt209.2.1 bt209.2.2 4).bind fun bt213 => (spec_l2Draw.l0 kj18 a1 bt213.1 s0_0 bt213.2.1 bt213.2.2 bt209.1 0 (⟨#[]⟩ : ByteArray) ([] : List (S27))))) = some (r1,r2,r3,r4,r5,r6) := by first | (rw [hy206];with_reducible exact H) | (have H2_ := (Option.bind_some _ _).symm.trans H;rw [hy206];with_reducible exact H2_) | (have H2_ := (Option.bind_some _ _).symm.trans H;with_reducible exact H2_) | with_reducible exact H | (rw [hy206];exact H) | exact H
        have Ny206 := Aside0.mk hy206
        clear hy206
        replace H := Option.bind_eq_some_iff.mp H
        obtain ⟨⟨t209,t210,t211⟩,A340,H⟩ := H
        replace H : ((spec_l1Below.f s0_0 t210 t211 4).bind fun bt213 => (spec_l2Draw.l0 kj18 a1 bt213.1 s0_0 bt213.2.1 bt213.2.2 t209 0 (⟨#[]⟩ : ByteArray) ([] : List (S27)))) = some (r1,r2,r3,r4,r5,r6) := H
        have A34 := Aside0.mk A340
        clear A340
        replace H := Option.bind_eq_some_iff.mp H
        obtain ⟨⟨t213,t214,t215⟩,A350,H⟩ := H
        replace H : (spec_l2Draw.l0 kj18 a1 t213 s0_0 t214 t215 t209 0 (⟨#[]⟩ : ByteArray) ([] : List (S27))) = some (r1,r2,r3,r4,r5,r6) := H
        have A35 := Aside0.mk A350
        clear A350
        have H' := Aside0.mk H
        clear H
        go_wp2_with (first | ((with_reducible refine gate_dst (N := 32) rfl ?_);refine Kd.R_lit (Kd.int .i64) _ 3 ?hg (N := 32) ?hd (xs := ([4,5] : List Int)) (inner := [.int .i64 4,.int .i64 5]) (ok := fun _ => True) (okp := fun _ => True) ?hr ?hp (fun _ hk => hk) trivial (Below.refl _ _) (Nat.le_refl _) (by simp) ?_;(case hd => rfl);(case hg => rfl);(case hr => first | (go_simp;done) | (go_simp;rfl));(case hp => exact (Reps.one (show Kd.M (Kd.int .i64) _ _ _ 4 [.int .i64 4] from rfl) (Reps.one (show Kd.M (Kd.int .i64) _ _ _ 5 [.int .i64 5] from rfl) (Reps.none _ _))));intro v207 w36 ho37 hb hg_ hnew_;clear hg_ hnew_;(first | rw [← Ny206.out] at ho37 | (simp only [Int.reduceToNat] at ho37;rw [← Ny206.out] at ho37));have n0_ := Aside0.mk (Kd.R_lower ho37 (keep_size (w := w) (g := g) (row := none) (by repeat (first | (with_reducible first | exact HK.out | apply KeepBut.set_ | apply keep_drewN | apply keep_drew | apply keep_alloc | refine keep_far ?_ GW184.out _) | exact HK.out))));have n1_ := Aside0.mk (blk_below (g := gb184) (o := .cells #[.int .i64 0,.int .i64 0,.string (⟨#[]⟩ : ByteArray),.slice none 0 0] 27 (0,0)) (by (with_reducible repeat (first | refine blk_drewN ?_ _ | refine blk_drew ?_ | refine blk_alloc ?_ _));exact BK184.out) hb);have n2_ := Aside0.mk (IsS47.below (by repeat (first | (with_reducible first | exact HI0.out | apply IsS47.alloc | apply IsS47.drewN | apply IsS47.drew | apply IsS47.set_1 | apply IsS47.set_2 | refine IsS47.far ?_ NB0_184.out _) | exact HI0.out)) hb);have n3_ := Aside0.mk (KeepBut.trans (by repeat (first | (with_reducible first | exact HK.out | apply KeepBut.set_ | apply keep_drewN | apply keep_drew | apply keep_alloc | refine keep_far ?_ GW184.out _) | exact HK.out)) (KeepBut.of_below hb g none) (.inl rfl));have n4_ := Aside0.mk (below_step (by repeat (first | (with_reducible first | exact HB.out | apply below_alloc | apply pw_below_drewN | apply below_drew1 | refine below_set ?_ (IsS47.ge HI0.out) | refine below_set ?_ GE184.out) | exact HB.out)) hb);clear BK184;clear HI0;clear HK;clear HB;have HO208 := n0_;have BK184 := n1_;have HI0 := n2_;have HK := n3_;have HB := n4_;clear n0_ n1_ n2_ n3_ n4_;clear hb ho37;obtain ⟨Ao38,co38,eo38⟩ := Kd.R_slice HO208.out;subst eo38) | ((with_reducible refine gate_callee (f := 16) rfl ?_);refine goesL_ (some 33) rfl rfl Try.func16 (by kernel_rfl) rfl #[.pointer (some ⟨g,0,none⟩),.slice Ao38 y206.length co38] rfl (by (try simp only [List.map_toArray,List.map_cons,List.map_nil]);first | done | rfl | (simp only [List.length_drop,List.length_take];rfl)) ?_;(with_reducible refine (spec_l1Int.calls g s0_0 t186 t187 _ _ y206 t209 t210 t211 w0 _ ?side1 ?side2 ?side3 ?side4 ?side5 A34.out).mono ?_);(case side1 => repeat (first | (with_reducible first | exact HI0.out | apply IsS47.alloc | apply IsS47.drewN | apply IsS47.drew | apply IsS47.set_1 | apply IsS47.set_2 | refine IsS47.far ?_ NB0_184.out _) | exact HI0.out));(case side2 => repeat (first | (with_reducible first | exact HB.out | apply below_alloc | apply pw_below_drewN | apply below_drew1 | refine below_set ?_ (IsS47.ge HI0.out) | refine below_set ?_ GE184.out) | exact HB.out));(case side3 => repeat (first | exact (Kd.R_reads' HO208.out).2.2 | (with_reducible refine Kd.C_alloc ?_ _) | (with_reducible refine Kd.C_drewN ?_ _) | (with_reducible refine Kd.C_drew ?_)));(case side4 => exact (Kd.R_reads' HO208.out).2.1);(case side5 => exact far_slice (IsS47.own_ne HI0.out HO208.out (by decide)));rintro e w39 ⟨rfl,hi,hb,hk⟩;refine ⟨_,rfl,?_⟩;have n0_ := Aside0.mk (KeepBut.blk hk (g' := gb184) (o := .cells #[.int .i64 0,.int .i64 0,.string (⟨#[]⟩ : ByteArray),.slice none 0 0] 27 (0,0)) (by (with_reducible repeat (first | refine blk_drewN ?_ _ | refine blk_drew ?_ | refine blk_alloc ?_ _));exact BK184.out) NB184_0.out (by simp));have n1_ := Aside0.mk (Kd.R_mono (Kd.R_keep (IsS47.apart (show IsS47 w0 _ g s0_0 t186 t187 from by repeat (first | (with_reducible first | exact HI0.out | apply IsS47.alloc | apply IsS47.drewN | apply IsS47.drew | apply IsS47.set_1 | apply IsS47.set_2 | refine IsS47.far ?_ NB0_184.out _) | exact HI0.out)) (by (with_reducible repeat (first | apply Kd.R_alloc | apply Kd.R_drewN | apply Kd.R_drew));exact HO208.out) (by decide)) hk (fun _ h => h.2)) (fun _ h => h.1));have n2_ := Aside0.mk (KeepBut.trans (by repeat (first | (with_reducible first | exact HK.out | apply KeepBut.set_ | apply keep_drewN | apply keep_drew | apply keep_alloc | refine keep_far ?_ GW184.out _) | exact HK.out)) hk (.inl rfl));have n3_ := Aside0.mk (hb);have n4_ := Aside0.mk (hi);clear BK184;clear HO208;clear HK;clear HB;clear HI0;have BK184 := n0_;have HO208 := n1_;have HK := n2_;have HB := n3_;have HI0 := n4_;clear n0_ n1_ n2_ n3_ n4_;(try clear hb);(try clear hb2);(try clear hk);(try clear hi)) | ((with_reducible refine gate_dst (N := 5) rfl ?_);refine box_event ?hg (N := 5) ?hd (cs := #[.int .i64 0,.int .i64 0,.string (⟨#[]⟩ : ByteArray),.slice none 0 0]) (t := 27) ?hr ?_;(case hd => rfl);(case hg => rfl);(case hr => first | (go_simp;done) | (go_simp;rfl));intro gb212 hg w40 hbox hb;have n0_ := Aside0.mk (Kd.R_below (by (with_reducible repeat (first | apply Kd.R_alloc | apply Kd.R_drewN | apply Kd.R_drew));exact HO208.out) hb);have n1_ := Aside0.mk (blk_below (g := gb184) (o := .cells #[.int .i64 0,.int .i64 0,.string (⟨#[]⟩ : ByteArray),.slice none 0 0] 27 (0,0)) (by (with_reducible repeat (first | refine blk_drewN ?_ _ | refine blk_drew ?_ | refine blk_alloc ?_ _));exact BK184.out) hb);have n2_ := Aside0.mk (IsS47.below (by repeat (first | (with_reducible first | exact HI0.out | apply IsS47.alloc | apply IsS47.drewN | apply IsS47.drew | apply IsS47.set_1 | apply IsS47.set_2 | refine IsS47.far ?_ NB0_184.out _) | exact HI0.out)) hb);have n3_ := Aside0.mk (KeepBut.trans (by repeat (first | (with_reducible first | exact HK.out | apply KeepBut.set_ | apply keep_drewN | apply keep_drew | apply keep_alloc | refine keep_far ?_ GW184.out _) | exact HK.out)) (KeepBut.of_below hb g none) (.inl rfl));have n4_ := Aside0.mk (below_step (by repeat (first | (with_reducible first | exact HB.out | apply below_alloc | apply pw_below_drewN | apply below_drew1 | refine below_set ?_ (IsS47.ge HI0.out) | refine below_set ?_ GE184.out) | exact HB.out)) hb);have n5_ := Aside0.mk (hbox);have n6_ := Aside0.mk ((by rw [hg];exact (keep_size (w := w) (g := g) (row := none) (by repeat (first | (with_reducible first | exact HK.out | apply KeepBut.set_ | apply keep_drewN | apply keep_drew | apply keep_alloc | refine keep_far ?_ GW184.out _) | exact HK.out))) : w.heap.size ≤ gb212));have n7_ := Aside0.mk ((Nat.le_trans HW0.out (by rw [hg];exact (keep_size (w := w) (g := g) (row := none) (by repeat (first | (with_reducible first | exact HK.out | apply KeepBut.set_ | apply keep_drewN | apply keep_drew | apply keep_alloc | refine keep_far ?_ GW184.out _) | exact HK.out))) : w.heap.size ≤ gb212) : w0.heap.size ≤ gb212));have n8_ := Aside0.mk ((by rw [hg];exact Nat.ne_of_lt (blk_lt (g := gb184) (o := .cells #[.int .i64 0,.int .i64 0,.string (⟨#[]⟩ : ByteArray),.slice none 0 0] 27 (0,0)) (by (with_reducible repeat (first | refine blk_drewN ?_ _ | refine blk_drew ?_ | refine blk_alloc ?_ _));exact BK184.out)) : gb184 ≠ gb212));have n9_ := Aside0.mk ((by rw [hg];exact Nat.ne_of_gt (blk_lt (g := gb184) (o := .cells #[.int .i64 0,.int .i64 0,.string (⟨#[]⟩ : ByteArray),.slice none 0 0] 27 (0,0)) (by (with_reducible repeat (first | refine blk_drewN ?_ _ | refine blk_drew ?_ | refine blk_alloc ?_ _));exact BK184.out)) : gb212 ≠ gb184));have n10_ := Aside0.mk ((by rw [hg];exact Nat.ne_of_lt (IsS47.lt (show IsS47 w0 _ g s0_0 t210 t211 from by repeat (first | (with_reducible first | exact HI0.out | apply IsS47.alloc | apply IsS47.drewN | apply IsS47.drew | apply IsS47.set_1 | apply IsS47.set_2 | refine IsS47.far ?_ NB0_184.out _) | exact HI0.out))) : g ≠ gb212));have n11_ := Aside0.mk ((by rw [hg];exact Nat.ne_of_gt (IsS47.lt (show IsS47 w0 _ g s0_0 t210 t211 from by repeat (first | (with_reducible first | exact HI0.out | apply IsS47.alloc | apply IsS47.drewN | apply IsS47.drew | apply IsS47.set_1 | apply IsS47.set_2 | refine IsS47.far ?_ NB0_184.out _) | exact HI0.out))) : gb212 ≠ g));clear HO208;clear BK184;clear HI0;clear HK;clear HB;have HO208 := n0_;have BK184 := n1_;have HI0 := n2_;have HK := n3_;have HB := n4_;have BK212 := n5_;have GW212 := n6_;have GE212 := n7_;have NB184_212 := n8_;have NB212_184 := n9_;have NB0_212 := n10_;have NB212_0 := n11_;clear n0_ n1_ n2_ n3_ n4_ n5_ n6_ n7_ n8_ n9_ n10_ n11_;clear hb hbox hg;have hnb41 := NB212_184.out;have hnc41 := NB184_212.out;have hnb42 := NB212_0.out;have hnc42 := NB0_212.out;have hcz43_0 : w40.cell? ⟨gb212,0,none⟩ = some (.int .i64 0) := (blk_cell BK212.out 0).trans rfl;have hcz43_1 : w40.cell? ⟨gb212,1,none⟩ = some (.int .i64 0) := (blk_cell BK212.out 1).trans rfl;have hcz43_2 : w40.cell? ⟨gb212,2,none⟩ = some (.string (⟨#[]⟩ : ByteArray)) := (blk_cell BK212.out 2).trans rfl;have hcz43_3 : w40.cell? ⟨gb212,3,none⟩ = some (.slice none 0 0) := (blk_cell BK212.out 3).trans rfl;have hfz43_0 := blk_frozen BK212.out 0;have hfz43_1 := blk_frozen BK212.out 1;have hfz43_2 := blk_frozen BK212.out 2;have hfz43_3 := blk_frozen BK212.out 3) | ((with_reducible refine gate_callee (f := 15) rfl ?_);refine goesL_ (some 36) rfl rfl Try.func15 (by kernel_rfl) rfl #[.pointer (some ⟨g,0,none⟩),.int .i64 4] rfl (by (try simp only [List.map_toArray,List.map_cons,List.map_nil]);first | done | rfl | (simp only [List.length_drop,List.length_take];rfl)) ?_;(with_reducible refine (spec_l1Below.calls g s0_0 t210 t211 4 t213 t214 t215 w0 _ ?side1 ?side2 A35.out).mono ?_);(case side1 => repeat (first | (with_reducible first | exact HI0.out | apply IsS47.alloc | apply IsS47.drewN | apply IsS47.drew | apply IsS47.set_1 | apply IsS47.set_2 | refine IsS47.far ?_ NB0_184.out _ | refine IsS47.far ?_ NB0_212.out _) | exact HI0.out));(case side2 => repeat (first | (with_reducible first | exact HB.out | apply below_alloc | apply pw_below_drewN | apply below_drew1 | refine below_set ?_ (IsS47.ge HI0.out) | refine below_set ?_ GE184.out | refine below_set ?_ GE212.out) | exact HB.out));rintro e w44 ⟨rfl,hi,hb,hk⟩;refine ⟨_,rfl,?_⟩;have n0_ := Aside0.mk (KeepBut.blk hk (g' := gb184) (o := .cells #[.int .i64 0,.int .i64 0,.string (⟨#[]⟩ : ByteArray),.slice none 0 0] 27 (0,0)) (by (with_reducible repeat (first | refine blk_drewN ?_ _ | refine blk_drew ?_ | refine blk_alloc ?_ _));refine blk_far ?_ NB184_212.out _;(with_reducible repeat (first | refine blk_drewN ?_ _ | refine blk_drew ?_ | refine blk_alloc ?_ _));refine blk_far ?_ NB184_212.out _;(with_reducible repeat (first | refine blk_drewN ?_ _ | refine blk_drew ?_ | refine blk_alloc ?_ _));refine blk_far ?_ NB184_212.out _;(with_reducible repeat (first | refine blk_drewN ?_ _ | refine blk_drew ?_ | refine blk_alloc ?_ _));refine blk_far ?_ NB184_212.out _;(with_reducible repeat (first | refine blk_drewN ?_ _ | refine blk_drew ?_ | refine blk_alloc ?_ _));exact BK184.out) NB184_0.out (by simp));have n1_ := Aside0.mk (Kd.R_mono (Kd.R_keep (IsS47.apart (show IsS47 w0 _ g s0_0 t210 t211 from by repeat (first | (with_reducible first | exact HI0.out | apply IsS47.alloc | apply IsS47.drewN | apply IsS47.drew | apply IsS47.set_1 | apply IsS47.set_2 | refine IsS47.far ?_ NB0_184.out _ | refine IsS47.far ?_ NB0_212.out _) | exact HI0.out)) (by (with_reducible repeat (first | apply Kd.R_alloc | apply Kd.R_drewN | apply Kd.R_drew));exact (Kd.R_mono (Kd.R_far (p := ⟨gb212,3,none⟩) (Kd.R_far (p := ⟨gb212,2,none⟩) (Kd.R_far (p := ⟨gb212,1,none⟩) (Kd.R_far (p := ⟨gb212,0,none⟩) (Kd.R_types HO208.out BK212.out (by decide)) (fun _ hk => hk.2) (.int .i64 t209)) (fun _ hk => hk.2) (.int .i64 0)) (fun _ hk => hk.2) (.string (⟨#[]⟩ : ByteArray))) (fun _ hk => hk.2) (.slice none 0 0)) (fun _ h_ => h_.1))) (by decide)) hk (fun _ h => h.2)) (fun _ h => h.1));have n2_ := Aside0.mk (KeepBut.blk hk (g' := gb212) (o := .cells #[.int .i64 t209,.int .i64 0,.string (⟨#[]⟩ : ByteArray),.slice none 0 0] 27 (0,0)) (by (with_reducible repeat (first | refine blk_drewN ?_ _ | refine blk_drew ?_ | refine blk_alloc ?_ _));refine blk_put (cs := #[.int .i64 t209,.int .i64 0,.string (⟨#[]⟩ : ByteArray),.slice none 0 0]) ?_ 3 _ rfl;(with_reducible repeat (first | refine blk_drewN ?_ _ | refine blk_drew ?_ | refine blk_alloc ?_ _));refine blk_put (cs := #[.int .i64 t209,.int .i64 0,.string (⟨#[]⟩ : ByteArray),.slice none 0 0]) ?_ 2 _ rfl;(with_reducible repeat (first | refine blk_drewN ?_ _ | refine blk_drew ?_ | refine blk_alloc ?_ _));refine blk_put (cs := #[.int .i64 t209,.int .i64 0,.string (⟨#[]⟩ : ByteArray),.slice none 0 0]) ?_ 1 _ rfl;(with_reducible repeat (first | refine blk_drewN ?_ _ | refine blk_drew ?_ | refine blk_alloc ?_ _));refine blk_put (cs := #[.int .i64 0,.int .i64 0,.string (⟨#[]⟩ : ByteArray),.slice none 0 0]) ?_ 0 _ rfl;(with_reducible repeat (first | refine blk_drewN ?_ _ | refine blk_drew ?_ | refine blk_alloc ?_ _));exact BK212.out) NB212_0.out (by simp));have n3_ := Aside0.mk (KeepBut.trans (by repeat (first | (with_reducible first | exact HK.out | apply KeepBut.set_ | apply keep_drewN | apply keep_drew | apply keep_alloc | refine keep_far ?_ GW184.out _ | refine keep_far ?_ GW212.out _) | exact HK.out)) hk (.inl rfl));have n4_ := Aside0.mk (hb);have n5_ := Aside0.mk (hi);clear BK184;clear HO208;clear BK212;clear HK;clear HB;clear HI0;have BK184 := n0_;have HO208 := n1_;have BK212 := n2_;have HK := n3_;have HB := n4_;have HI0 := n5_;clear n0_ n1_ n2_ n3_ n4_ n5_;(try clear hb);(try clear hb2);(try clear hk);(try clear hi)))
        go_loopg [6] kj18 (fun kq v6 w' => ∃ (x6_3 : Int) (x1001_3 : Int) (x1002_3 : Int) (x213003_3 : List (S27)) (u213003 : Value),v6 = .int .i64 x6_3 ∧ Aside0 (spec_l2Draw.l0 kq a1 x6_3 s0_0 x1001_3 x1002_3 t209 0 (⟨#[]⟩ : ByteArray) x213003_3 = some (r1,r2,r3,r4,r5,r6)) ∧ Aside0 (kq ≤ kj18) ∧ Aside0 (Kd.R k27 27 w' w.heap.size (fun k_ => k_ ≠ gb184 ∧ k_ ≠ gb212) u213003 x213003_3) ∧ Aside0 (w'.heap[gb184]? = some (.cells #[.int .i64 0,.int .i64 0,.string (⟨#[]⟩ : ByteArray),(.slice none 0 0)] 27 (0,0))) ∧ Aside0 (w'.heap[gb212]? = some (.cells #[.int .i64 t209,.int .i64 0,.string (⟨#[]⟩ : ByteArray),u213003] 27 (0,0))) ∧ Aside0 (IsS47 w0 w' g s0_0 x1001_3 x1002_3) ∧ Aside0 (KeepBut w w' g none) ∧ Aside0 (Below w0.heap.size w0 w'))
        case atStart => exact ⟨(t213),(t214),(t215),(([] : List (S27))),(.slice none 0 0),(by first | rfl | (simp;done) | (simp [*];done)),H',⟨Nat.le_refl _⟩,⟨by first | exact Kd.R_nil _ _ _ _ _ | exact Kd.N_nil _ _ _ _ _ | exact Kd.V_nil _ _ _ _ _ | exact Kd.Q_nil _ _ _ _ _ | exact Kd.S_nil _ _ _ _ _⟩,⟨by (with_reducible repeat (first | refine blk_drewN ?_ _ | refine blk_drew ?_ | refine blk_alloc ?_ _));exact BK184.out⟩,⟨by (with_reducible repeat (first | refine blk_drewN ?_ _ | refine blk_drew ?_ | refine blk_alloc ?_ _));exact BK212.out⟩,⟨by repeat (first | (with_reducible first | exact HI0.out | apply IsS47.alloc | apply IsS47.drewN | apply IsS47.drew | apply IsS47.set_1 | apply IsS47.set_2 | refine IsS47.far ?_ NB0_184.out _ | refine IsS47.far ?_ NB0_212.out _) | exact HI0.out)⟩,⟨by repeat (first | (with_reducible first | exact HK.out | apply KeepBut.set_ | apply keep_drewN | apply keep_drew | apply keep_alloc | refine keep_far ?_ GW184.out _ | refine keep_far ?_ GW212.out _) | exact HK.out)⟩,⟨by repeat (first | (with_reducible first | exact HB.out | apply below_alloc | apply pw_below_drewN | apply below_drew1 | refine below_set ?_ (IsS47.ge HI0.out) | refine below_set ?_ GE184.out | refine below_set ?_ GE212.out) | exact HB.out)⟩⟩
        case round =>
         clear H'
         try clear c1
         try clear c2
         try clear p2
         try clear c3
         try clear c4
         try clear c7
         try clear c7b0
         try clear c7b1
         try clear c7b2
         try clear c8
         try clear c8b0
         try clear c8b1
         try clear c9
         try clear c14
         try clear c15
         try clear c16
         try clear c17
         try clear c20
         try clear c20b0
         try clear c20b1
         try clear c20b2
         try clear c21
         try clear c24
         try clear c27
         try clear c29
         try clear c29b0
         try clear c29b1
         try clear c32
         try clear c41
         try clear c42
         try clear hcz18_0
         try clear hcz18_1
         try clear hcz18_2
         try clear hcz18_3
         try clear hcz28_0
         try clear hcz28_1
         try clear hcz28_2
         try clear hcz28_3
         try clear hcz33_0
         try clear hcz33_1
         try clear hcz33_2
         try clear hcz33_3
         try clear hcz43_0
         try clear hcz43_1
         try clear hcz43_2
         try clear hcz43_3
         try clear hfz18_0
         try clear hfz18_1
         try clear hfz18_2
         try clear hfz18_3
         try clear hfz28_0
         try clear hfz28_1
         try clear hfz28_2
         try clear hfz28_3
         try clear hfz33_0
         try clear hfz33_1
         try clear hfz33_2
         try clear hfz33_3
         try clear hfz43_0
         try clear hfz43_1
         try clear hfz43_2
         try clear hfz43_3
         try clear p2
         try clear HO_213003
         try clear BK184
         try clear BK212
         try clear HI0
         try clear HK
         try clear HB
         obtain ⟨x6_3,x1001_3,x1002_3,x213003_3,u213003,rfl,HA,HK3,HO_213003,BK184,BK212,HI0,HK,HB⟩ := hrel
         cases gk with
         | zero => exact absurd HA.out (by simp [spec_l2Draw.l0])
         | succ k3 =>
          have H := HA.out
          clear HA
          simp only [spec_l2Draw.l0] at H
          by_cases c45 : x6_3 > 0
          ·rw [if_pos c45] at H
           have c45b0 : decide (0 < x6_3) = true := decide_eq_true c45
           clear c45
           by_cases c46 : a1 > 0
           ·rw [if_pos c46] at H
            have c46b0 : decide (0 < a1) = true := decide_eq_true c46
            clear c46
            replace H := Option.bind_eq_some_iff.mp H
            obtain ⟨⟨t216,t217,t218,t219,t222,t223⟩,A470,H⟩ := H
            replace H : (if x213003_3.length < 2513169434916 then (spec_l2Draw.l0 k3 a1 (wrap64 (x6_3 - 1)) s0_0 t222 t223 t209 0 (⟨#[]⟩ : ByteArray) (x213003_3 ++ [(⟨t216,t217,t218,t219⟩ : S27)])) else (none)) = some (r1,r2,r3,r4,r5,r6) := H
            have A47 := Aside0.mk A470
            clear A470
            by_cases c48 : x213003_3.length < 2513169434916
            ·rw [if_pos c48] at H
             have LMc48 := Aside0.mk c48
             clear c48
             obtain ⟨y224,hy224⟩ : ∃ y_ : List (S27),y_ = (x213003_3 ++ [(⟨t216,t217,t218,t219⟩ : S27)]) := ⟨_,rfl⟩
             replace H : (spec_l2Draw.l0 k3 a1 (wrap64 (x6_3 - 1)) s0_0 t222 t223 t209 0 (⟨#[]⟩ : ByteArray) y224) = some (r1,r2,r3,r4,r5,r6) := by first | (rw [hy224];with_reducible exact H) | (have H2_ := (Option.bind_some _ _).symm.trans H;rw [hy224];with_reducible exact H2_) | (have H2_ := (Option.bind_some _ _).symm.trans H;with_reducible exact H2_) | with_reducible exact H | (rw [hy224];exact H) | exact H
             have Ny224 := Aside0.mk hy224
             clear hy224
             have H' := Aside0.mk H
             clear H
             try go_wp2
             have n0_ := Aside0.mk (Kd.R_drew HO_213003.out)
             have n1_ := Aside0.mk (blk_drew BK184.out)
             have n2_ := Aside0.mk (blk_drew BK212.out)
             have n3_ := Aside0.mk (IsS47.drew HI0.out)
             have n4_ := Aside0.mk (keep_drew HK.out)
             have n5_ := Aside0.mk (below_drew1 HB.out)
             clear HO_213003
             clear BK184
             clear BK212
             clear HI0
             clear HK
             clear HB
             have HO_213003 := n0_
             have BK184 := n1_
             have BK212 := n2_
             have HI0 := n3_
             have HK := n4_
             have HB := n5_
             clear n0_ n1_ n2_ n3_ n4_ n5_
             refine start_ (n := 10) (S := fun w' => w'.cell? ⟨gb212,0,none⟩ = some (.int .i64 t209) ∧ w'.cell? ⟨gb212,1,none⟩ = some (.int .i64 0) ∧ w'.cell? ⟨gb212,2,none⟩ = some (.string (⟨#[]⟩ : ByteArray)) ∧ w'.cell? ⟨gb212,3,none⟩ = some (u213003)) (ds := [9]) #[false,false,false,false,false,false,false,false,false,false] (by kernel_rfl) rfl rfl ⟨(blk_cell BK212.out 0).trans rfl,(blk_cell BK212.out 1).trans rfl,(blk_cell BK212.out 2).trans rfl,(blk_cell BK212.out 3).trans rfl⟩ (fun hHeld => ?_);refine with_tabW spec_l2Draw.tab15 spec_l2Draw.bits15 (fun HT_ HW_ => ?_)
             generalize wr.drew = w49 at HO_213003 BK184 BK212 HI0 HK HB hHeld ⊢
             refine pure_ (i := 0) (N := some 45) (v := ?_) (a' := ?_) #[true,false,false,false,false,false,false,false,false,false] rfl rfl (any_of HT_.out (by kernel_rfl)) (fun _ _ _ h => h) (Or.inl ⟨by rfl,?_⟩) ?_ ?_
             rotate_left
             ·intro w'
              go_simp
              with_reducible rfl
             rotate_left
             ·simp only [Act.put,List.setIfInBounds_toArray,List.set_cons_zero,List.set_cons_succ,i64_w,i32_w]
              rfl
             refine pure_ (i := 2) (N := some 47) (v := ?_) (a' := ?_) #[true,false,true,false,false,false,false,false,false,false] rfl rfl (any_of HT_.out (by kernel_rfl)) (fun _ _ _ h => h) (Or.inl ⟨by rfl,?_⟩) ?_ ?_
             rotate_left
             ·intro w'
              go_simp
              with_reducible rfl
             rotate_left
             ·simp only [Act.put,List.setIfInBounds_toArray,List.set_cons_zero,List.set_cons_succ,i64_w,i32_w]
              rfl
             refine pure_ (i := 3) (N := some 48) (v := ?_) (a' := ?_) #[true,false,true,true,false,false,false,false,false,false] rfl rfl (any_of HT_.out (by kernel_rfl)) (fun _ _ _ h => h) (Or.inl ⟨by rfl,?_⟩) ?_ ?_
             rotate_left
             ·intro w'
              go_simp
              with_reducible rfl
             rotate_left
             ·simp only [Act.put,List.setIfInBounds_toArray,List.set_cons_zero,List.set_cons_succ,i64_w,i32_w]
              rfl
             refine pure_ (i := 4) (N := some 49) (v := ?_) (a' := ?_) #[true,false,true,true,true,false,false,false,false,false] rfl rfl (any_of HT_.out (by kernel_rfl)) (fun _ _ _ h => h) (Or.inl ⟨by rfl,?_⟩) ?_ ?_
             rotate_left
             ·intro w'
              go_simp
              with_reducible rfl
             rotate_left
             ·simp only [Act.put,List.setIfInBounds_toArray,List.set_cons_zero,List.set_cons_succ,i64_w,i32_w]
              rfl
             refine take_ (i := 1) (N := some 46) (v := ?_) (a' := ?_) #[true,true,true,true,true,false,false,false,false,false] rfl rfl (take_ofW HT_.out HW_.out (by kernel_rfl)) (fun _ _ _ h => h) (Or.inl ⟨by rfl,?_⟩) hHeld ?_ ?_
             rotate_left
             ·rintro w' ⟨s0,s1,s2,s3⟩
              go_simp
              with_reducible rfl
             rotate_left
             ·simp only [Act.put,List.setIfInBounds_toArray,List.set_cons_zero,List.set_cons_succ,i64_w,i32_w]
              rfl
             refine one_ (i := 5) (N := some 50) #[true,true,true,true,true,true,false,false,false,false] rfl rfl (one_of HT_.out (by kernel_rfl)) (by decide) (fun K hK => ?_)
             refine goes_ Try.func14 (by kernel_rfl) rfl #[.pointer (some ⟨g,0,none⟩),.int .i64 (wrap64 (a1 - 1))] (by rfl) rfl rfl (by (try simp only [List.map_toArray,List.map_cons,List.map_nil]);first | done | rfl | (simp only [List.length_drop,List.length_take];rfl)) ?_
             with_reducible refine (ih k3 (by have := HJ3.out;have := HJ18.out;have := HK3.out;omega) g s0_0 x1001_3 x1002_3 (wrap64 (a1 - 1)) t216 t217 t218 t219 t222 t223 w0 _ ?side1 ?side2 A47.out).mono ?_
             (case side1 => repeat (first | (with_reducible first | exact HI0.out | apply IsS47.alloc | apply IsS47.drewN | apply IsS47.drew | apply IsS47.set_1 | apply IsS47.set_2 | refine IsS47.far ?_ NB0_184.out _ | refine IsS47.far ?_ NB0_212.out _) | exact HI0.out))
             (case side2 => repeat (first | (with_reducible first | exact HB.out | apply below_alloc | apply pw_below_drewN | apply below_drew1 | refine below_set ?_ (IsS47.ge HI0.out) | refine below_set ?_ GE184.out | refine below_set ?_ GE212.out) | exact HB.out))
             rintro e w50 ⟨v220,rfl,ho0,hi,hb,hk⟩
             refine ⟨_,rfl,?_⟩
             have n0_ := Aside0.mk (Kd.R_mono (Kd.R_told (Kd.R_oldK (IsS47.apart (show IsS47 w0 _ g s0_0 x1001_3 x1002_3 from by repeat (first | (with_reducible first | exact HI0.out | apply IsS47.alloc | apply IsS47.drewN | apply IsS47.drew | apply IsS47.set_1 | apply IsS47.set_2 | refine IsS47.far ?_ NB0_184.out _ | refine IsS47.far ?_ NB0_212.out _) | exact HI0.out)) (by (with_reducible repeat (first | apply Kd.R_alloc | apply Kd.R_drewN | apply Kd.R_drew));exact HO_213003.out) (by decide)) hk) (Kd.R_base ho0)) (fun _ h_ => h_.1))
             have n1_ := Aside0.mk (KeepBut.blk hk (g' := gb184) (o := .cells #[.int .i64 0,.int .i64 0,.string (⟨#[]⟩ : ByteArray),.slice none 0 0] 27 (0,0)) (by (with_reducible repeat (first | refine blk_drewN ?_ _ | refine blk_drew ?_ | refine blk_alloc ?_ _));exact BK184.out) NB184_0.out (by simp))
             have n2_ := Aside0.mk (KeepBut.blk hk (g' := gb212) (o := .cells #[.int .i64 t209,.int .i64 0,.string (⟨#[]⟩ : ByteArray),u213003] 27 (0,0)) (by (with_reducible repeat (first | refine blk_drewN ?_ _ | refine blk_drew ?_ | refine blk_alloc ?_ _));exact BK212.out) NB212_0.out (by simp))
             have n3_ := Aside0.mk (Kd.R_lower (Kd.R_newB (Kd.R_newB (Kd.R_new' ho0 (Kd.R_lt (by (with_reducible repeat (first | apply Kd.R_alloc | apply Kd.R_drewN | apply Kd.R_drew));exact HO_213003.out))) (g := gb184) (o := .cells #[.int .i64 0,.int .i64 0,.string (⟨#[]⟩ : ByteArray),.slice none 0 0] 27 (0,0)) (by (with_reducible repeat (first | refine blk_drewN ?_ _ | refine blk_drew ?_ | refine blk_alloc ?_ _));exact BK184.out)) (g := gb212) (o := .cells #[.int .i64 t209,.int .i64 0,.string (⟨#[]⟩ : ByteArray),u213003] 27 (0,0)) (by (with_reducible repeat (first | refine blk_drewN ?_ _ | refine blk_drew ?_ | refine blk_alloc ?_ _));exact BK212.out)) (keep_size (w := w) (g := g) (row := none) (by repeat (first | (with_reducible first | exact HK.out | apply KeepBut.set_ | apply keep_drewN | apply keep_drew | apply keep_alloc | refine keep_far ?_ GW184.out _ | refine keep_far ?_ GW212.out _) | exact HK.out))))
             have n4_ := Aside0.mk (KeepBut.trans (by repeat (first | (with_reducible first | exact HK.out | apply KeepBut.set_ | apply keep_drewN | apply keep_drew | apply keep_alloc | refine keep_far ?_ GW184.out _ | refine keep_far ?_ GW212.out _) | exact HK.out)) hk (.inl rfl))
             have n5_ := Aside0.mk (hb)
             have n6_ := Aside0.mk (hi)
             clear HO_213003
             clear BK184
             clear BK212
             clear HK
             clear HB
             clear HI0
             have HO_213003 := n0_
             have BK184 := n1_
             have BK212 := n2_
             have HO221 := n3_
             have HK := n4_
             have HB := n5_
             have HI0 := n6_
             clear n0_ n1_ n2_ n3_ n4_ n5_ n6_
             (try clear hb)
             (try clear hb2)
             (try clear hk)
             (try clear hi)
             (try clear ho0)
             obtain ⟨Ao52,co52,eo52⟩ := Kd.R_slice HO221.out
             (first | subst eo52 | (injection eo52 with f1_ f2_ f3_;have f4_ := f1_.symm;have f5_ := f3_.symm;clear f1_ f2_ f3_;subst f4_;subst f5_))
             refine hK.out _ _ ⟨(blk_cell BK212.out 0).trans rfl,(blk_cell BK212.out 1).trans rfl,(blk_cell BK212.out 2).trans rfl,(blk_cell BK212.out 3).trans rfl⟩ (fun hHeld => ?_)
             clear hK K
             refine norm_ (a' := ?_) ?_ ?_
             rotate_left
             ·show Act.put _ (some 50) _ = _
              simp only [Act.put,List.setIfInBounds_toArray,List.set_cons_zero,List.set_cons_succ,i64_w,i32_w]
              rfl
             refine one_ (i := 6) (N := some 51) #[true,true,true,true,true,true,true,false,false,false] rfl rfl (one_of HT_.out (by kernel_rfl)) (by decide) (fun K hK => ?_)
             refine value_ (w1 := ?_) (v := ?_) (by rfl) rfl ?_ ?_
             rotate_left 2
             ·go_simp
              constructor
              ·rfl
              ·rfl
             refine hK.out _ _ ⟨(blk_cell (blk_alloc BK212.out _) 0).trans rfl,(blk_cell (blk_alloc BK212.out _) 1).trans rfl,(blk_cell (blk_alloc BK212.out _) 2).trans rfl,(blk_cell (blk_alloc BK212.out _) 3).trans rfl⟩ (fun hHeld => ?_)
             clear hK K
             refine norm_ (a' := ?_) ?_ ?_
             rotate_left
             ·show Act.put _ (some 51) _ = _
              simp only [Act.put,List.setIfInBounds_toArray,List.set_cons_zero,List.set_cons_succ,i64_w,i32_w]
              rfl
             refine one_ (i := 7) (N := some 52) #[true,true,true,true,true,true,true,true,false,false] rfl rfl (one_of HT_.out (by kernel_rfl)) (by decide) (fun K hK => ?_)
             refine Kd.R_append_step k27 w.heap.size (by rfl) (.tmp 46) (.tmp 51) 25 27 (.agg #[(.int .i64 0),(.int .i64 0),(.string ⟨#[]⟩),(.slice none 0 0)]) 56 rfl Try.underlying25 info27 rfl (by decide) (by omega) u213003 x213003_3 (⟨t216,t217,t218,t219⟩ : S27) [.int .i64 t216,.int .i64 t217,.string t218,.slice Ao52 t219.length co52] (fun k_ => k_ ≠ gb184 ∧ k_ ≠ gb212) (fun k_ => ((fun k_ => k_ ≠ gb184 ∧ k_ ≠ gb212)) k_ ∧ some k_ ≠ (u213003 : Value).ownBlock) rfl rfl ?aP (fun _ hk => hk) ?aF ?aO (Below.refl _ _) ?aS ?aL ?_
             (case aP => exact k27_mkM _ _ _ (⟨t216,t217,t218,t219⟩ : S27) (Kd.R_mono (HO221.out) (fun k_ hk => ⟨⟨hk.1.2,hk.2⟩,hk.1.1.2⟩)))
             (case aF => exact (fun k_ hk => ⟨Kd.freshB (g := gb184) (o := .cells #[.int .i64 0,.int .i64 0,.string (⟨#[]⟩ : ByteArray),.slice none 0 0] 27 (0,0)) (by (with_reducible repeat (first | refine blk_drewN ?_ _ | refine blk_drew ?_ | refine blk_alloc ?_ _));exact BK184.out) k_ hk,Kd.freshB (g := gb212) (o := .cells #[.int .i64 t209,.int .i64 0,.string (⟨#[]⟩ : ByteArray),u213003] 27 (0,0)) (by (with_reducible repeat (first | refine blk_drewN ?_ _ | refine blk_drew ?_ | refine blk_alloc ?_ _));exact BK212.out) k_ hk⟩))
             (case aO => exact (by (with_reducible repeat (first | apply Kd.R_alloc | apply Kd.R_drewN | apply Kd.R_drew));exact Kd.R_mono HO_213003.out (fun _ hk => ⟨hk.1.1,hk.1.2⟩)))
             (case aS => exact (keep_size (w := w) (g := g) (row := none) (by repeat (first | (with_reducible first | exact HK.out | apply KeepBut.set_ | apply keep_drewN | apply keep_drew | apply keep_alloc | refine keep_far ?_ GW184.out _ | refine keep_far ?_ GW212.out _) | exact HK.out))))
             (case aL => have := LMc48.out;omega)
             intro v225 w51 ho hb hg hat
             rw [← Ny224.out] at ho
             have n0_ := Aside0.mk (blk_grown (g := gb184) (o := .cells #[.int .i64 0,.int .i64 0,.string (⟨#[]⟩ : ByteArray),.slice none 0 0] 27 (0,0)) (by (with_reducible repeat (first | refine blk_drewN ?_ _ | refine blk_drew ?_ | refine blk_alloc ?_ _));exact BK184.out) hg (Kd.R_away HO_213003.out (fun _ hk => hk.1.1)))
             have n1_ := Aside0.mk (blk_grown (g := gb212) (o := .cells #[.int .i64 t209,.int .i64 0,.string (⟨#[]⟩ : ByteArray),u213003] 27 (0,0)) (by (with_reducible repeat (first | refine blk_drewN ?_ _ | refine blk_drew ?_ | refine blk_alloc ?_ _));exact BK212.out) hg (Kd.R_away HO_213003.out (fun _ hk => hk.1.2)))
             have n2_ := Aside0.mk (IsS47.grown (by repeat (first | (with_reducible first | exact HI0.out | apply IsS47.alloc | apply IsS47.drewN | apply IsS47.drew | apply IsS47.set_1 | apply IsS47.set_2 | refine IsS47.far ?_ NB0_184.out _ | refine IsS47.far ?_ NB0_212.out _) | exact HI0.out)) hg (IsS47.own_ne HI0.out HO_213003.out (by decide)))
             have n3_ := Aside0.mk (below_weaken (by repeat (first | (with_reducible first | exact HB.out | apply below_alloc | apply pw_below_drewN | apply below_drew1 | refine below_set ?_ (IsS47.ge HI0.out) | refine below_set ?_ GE184.out | refine below_set ?_ GE212.out) | exact HB.out)) HL.out hb)
             have n4_ := Aside0.mk (KeepBut.trans (by repeat (first | (with_reducible first | exact HK.out | apply KeepBut.set_ | apply keep_drewN | apply keep_drew | apply keep_alloc | refine keep_far ?_ GW184.out _ | refine keep_far ?_ GW212.out _) | exact HK.out)) (KeepBut.of_grown hg g) (Kd.R_base2 HO_213003.out))
             have n5_ := Aside0.mk (ho)
             clear BK184
             clear BK212
             clear HI0
             clear HB
             clear HK
             clear HO_213003
             clear HO221
             have BK184 := n0_
             have BK212 := n1_
             have HI0 := n2_
             have HB := n3_
             have HK := n4_
             have HO226 := n5_
             clear n0_ n1_ n2_ n3_ n4_ n5_
             clear ho hb hg hat
             obtain ⟨Ao53,co53,eo53⟩ := Kd.R_slice HO226.out
             (first | subst eo53 | (injection eo53 with f1_ f2_ f3_;have f4_ := f1_.symm;have f5_ := f3_.symm;clear f1_ f2_ f3_;subst f4_;subst f5_))
             refine hK.out _ _ ⟨(blk_cell BK212.out 0).trans rfl,(blk_cell BK212.out 1).trans rfl,(blk_cell BK212.out 2).trans rfl,(blk_cell BK212.out 3).trans rfl⟩ (fun hHeld => ?_)
             clear hK K
             refine norm_ (a' := ?_) ?_ ?_
             rotate_left
             ·show Act.put _ (some 52) _ = _
              simp only [Act.put,List.setIfInBounds_toArray,List.set_cons_zero,List.set_cons_succ,i64_w,i32_w]
              rfl
             refine pure_ (i := 8) (N := some 53) (v := ?_) (a' := ?_) #[true,true,true,true,true,true,true,true,true,false] rfl rfl (any_of HT_.out (by kernel_rfl)) (fun _ _ _ h => h) (Or.inl ⟨by rfl,?_⟩) ?_ ?_
             rotate_left
             ·intro w'
              go_simp
              with_reducible rfl
             rotate_left
             ·simp only [Act.put,List.setIfInBounds_toArray,List.set_cons_zero,List.set_cons_succ,i64_w,i32_w]
              rfl
             refine last_ (i := 9) (N := none) #[true,true,true,true,true,true,true,true,true,true] rfl rfl (one_of HT_.out (by kernel_rfl)) (by decide) (fun K hK => ?_)
             have hs54 : w51.cell? ⟨gb212,3,none⟩ = some (u213003) := (blk_cell BK212.out 3).trans rfl
             have hfs54 := blk_frozen BK212.out 3
             have hns54_0 := NB184_212.out
             have hms54_0 := NB212_184.out
             refine skip_ (w1 := ?_) (by rfl) rfl ?_ ?_
             rotate_left
             ·go_simp
              rfl
             refine hK.out _ _ ?_
             clear hK K
             refine done_ (done_of HT_.out (by kernel_rfl)) ?_
             try go_wp2
             go_roundg k3
             case measure => have := HJ3.out;have := HJ18.out;have := HK3.out;omega
             case rel => exact ⟨(wrap64 (x6_3 - 1)),(t222),(t223),(y224),(.slice Ao53 y224.length co53),(by first | rfl | (simp;done) | (simp [*];done)),H',⟨by have := HJ3.out;have := HJ18.out;have := HK3.out;omega⟩,⟨by (with_reducible repeat (first | apply Kd.R_alloc | apply Kd.R_drewN | apply Kd.R_drew));exact Kd.R_mono (Kd.R_far (p := ⟨gb212,3,none⟩) (Kd.R_mono HO226.out (fun k_ hk => (⟨hk,hk.2⟩ : _ ∧ k_ ≠ gb212))) (fun _ hk => hk.2) (.slice Ao53 y224.length co53)) (fun _ hk => ⟨hk.1.1,hk.1.2⟩)⟩,⟨by (with_reducible repeat (first | refine blk_drewN ?_ _ | refine blk_drew ?_ | refine blk_alloc ?_ _));refine blk_far ?_ NB184_212.out _;(with_reducible repeat (first | refine blk_drewN ?_ _ | refine blk_drew ?_ | refine blk_alloc ?_ _));exact BK184.out⟩,⟨by (with_reducible repeat (first | refine blk_drewN ?_ _ | refine blk_drew ?_ | refine blk_alloc ?_ _));refine blk_put (cs := #[.int .i64 t209,.int .i64 0,.string (⟨#[]⟩ : ByteArray),u213003]) ?_ 3 _ rfl;(with_reducible repeat (first | refine blk_drewN ?_ _ | refine blk_drew ?_ | refine blk_alloc ?_ _));exact BK212.out⟩,⟨by repeat (first | (with_reducible first | exact HI0.out | apply IsS47.alloc | apply IsS47.drewN | apply IsS47.drew | apply IsS47.set_1 | apply IsS47.set_2 | refine IsS47.far ?_ NB0_184.out _ | refine IsS47.far ?_ NB0_212.out _) | exact HI0.out)⟩,⟨by repeat (first | (with_reducible first | exact HK.out | apply KeepBut.set_ | apply keep_drewN | apply keep_drew | apply keep_alloc | refine keep_far ?_ GW184.out _ | refine keep_far ?_ GW212.out _) | exact HK.out)⟩,⟨by repeat (first | (with_reducible first | exact HB.out | apply below_alloc | apply pw_below_drewN | apply below_drew1 | refine below_set ?_ (IsS47.ge HI0.out) | refine below_set ?_ GE184.out | refine below_set ?_ GE212.out) | exact HB.out)⟩⟩
            ·rw [if_neg c48] at H
             exact absurd H (by simp)
           ·rw [if_neg c46] at H
            have c46b0 : decide (0 < a1) = false := decide_eq_false c46
            clear c46
            simp only [Option.some.injEq,Prod.mk.injEq] at H
            obtain ⟨rfl,rfl,rfl,rfl,rfl,rfl⟩ := H
            have hnb55 := NB212_184.out
            have hnc55 := NB184_212.out
            have hnb56 := NB212_0.out
            have hnc56 := NB0_212.out
            have hcz57_0 : wr.cell? ⟨gb212,0,none⟩ = some (.int .i64 t209) := (blk_cell BK212.out 0).trans rfl
            have hcz57_1 : wr.cell? ⟨gb212,1,none⟩ = some (.int .i64 0) := (blk_cell BK212.out 1).trans rfl
            have hcz57_2 : wr.cell? ⟨gb212,2,none⟩ = some (.string (⟨#[]⟩ : ByteArray)) := (blk_cell BK212.out 2).trans rfl
            have hcz57_3 : wr.cell? ⟨gb212,3,none⟩ = some (u213003) := (blk_cell BK212.out 3).trans rfl
            have hfz57_0 := blk_frozen BK212.out 0
            have hfz57_1 := blk_frozen BK212.out 1
            have hfz57_2 := blk_frozen BK212.out 2
            have hfz57_3 := blk_frozen BK212.out 3
            have hnb58 := NB184_0.out
            have hnc58 := NB0_184.out
            have hcz59_0 : wr.cell? ⟨gb184,0,none⟩ = some (.int .i64 0) := (blk_cell BK184.out 0).trans rfl
            have hcz59_1 : wr.cell? ⟨gb184,1,none⟩ = some (.int .i64 0) := (blk_cell BK184.out 1).trans rfl
            have hcz59_2 : wr.cell? ⟨gb184,2,none⟩ = some (.string (⟨#[]⟩ : ByteArray)) := (blk_cell BK184.out 2).trans rfl
            have hcz59_3 : wr.cell? ⟨gb184,3,none⟩ = some (.slice none 0 0) := (blk_cell BK184.out 3).trans rfl
            have hfz59_0 := blk_frozen BK184.out 0
            have hfz59_1 := blk_frozen BK184.out 1
            have hfz59_2 := blk_frozen BK184.out 2
            have hfz59_3 := blk_frozen BK184.out 3
            obtain ⟨Ao60,co60,eo60⟩ := Kd.R_slice HO_213003.out
            subst eo60
            go_wp2
            refine bodyPost_ret (results_cell_row rfl _ _ gb184 27 #[.int .i64 t209,.int .i64 0,.string (⟨#[]⟩ : ByteArray),.slice Ao60 x213003_3.length co60] (0,0) _ rfl (by (with_reducible repeat (first | refine blk_drewN ?_ _ | refine blk_drew ?_ | refine blk_alloc ?_ _));refine blk_put (cs := #[.int .i64 t209,.int .i64 0,.string (⟨#[]⟩ : ByteArray),.slice none 0 0]) ?_ 3 _ rfl;(with_reducible repeat (first | refine blk_drewN ?_ _ | refine blk_drew ?_ | refine blk_alloc ?_ _));refine blk_put (cs := #[.int .i64 t209,.int .i64 0,.string (⟨#[]⟩ : ByteArray),.slice none 0 0]) ?_ 2 _ rfl;(with_reducible repeat (first | refine blk_drewN ?_ _ | refine blk_drew ?_ | refine blk_alloc ?_ _));refine blk_put (cs := #[.int .i64 t209,.int .i64 0,.string (⟨#[]⟩ : ByteArray),.slice none 0 0]) ?_ 1 _ rfl;(with_reducible repeat (first | refine blk_drewN ?_ _ | refine blk_drew ?_ | refine blk_alloc ?_ _));refine blk_put (cs := #[.int .i64 0,.int .i64 0,.string (⟨#[]⟩ : ByteArray),.slice none 0 0]) ?_ 0 _ rfl;(with_reducible repeat (first | refine blk_drewN ?_ _ | refine blk_drew ?_ | refine blk_alloc ?_ _));exact BK184.out) Try.underlying27 rfl (by kernel_rfl)) rfl ?_
            exact ⟨_,by first | rfl | (simp [*,errW_none,errW_some] <;> rfl),by (with_reducible repeat (first | apply Kd.R_alloc | apply Kd.R_drewN | apply Kd.R_drew));exact Kd.R_mono (Kd.R_far (p := ⟨gb184,3,none⟩) (Kd.R_far (p := ⟨gb184,2,none⟩) (Kd.R_far (p := ⟨gb184,1,none⟩) (Kd.R_far (p := ⟨gb184,0,none⟩) (Kd.R_mono HO_213003.out (fun k_ hk => (⟨hk,hk.1⟩ : _ ∧ k_ ≠ gb184))) (fun _ hk => hk.2) (.int .i64 t209)) (fun _ hk => hk.2) (.int .i64 0)) (fun _ hk => hk.2) (.string (⟨#[]⟩ : ByteArray))) (fun _ hk => hk.2) (.slice Ao60 x213003_3.length co60)) (fun _ hk => trivial),by repeat (first | (with_reducible first | exact HI0.out | apply IsS47.alloc | apply IsS47.drewN | apply IsS47.drew | apply IsS47.set_1 | apply IsS47.set_2 | refine IsS47.far ?_ NB0_184.out _ | refine IsS47.far ?_ NB0_212.out _) | exact HI0.out),by repeat (first | (with_reducible first | exact HB.out | apply below_alloc | apply pw_below_drewN | apply below_drew1 | refine below_set ?_ (IsS47.ge HI0.out) | refine below_set ?_ GE184.out | refine below_set ?_ GE212.out) | exact HB.out),by repeat (first | (with_reducible first | exact HK.out | apply KeepBut.set_ | apply keep_drewN | apply keep_drew | apply keep_alloc | refine keep_far ?_ GW184.out _ | refine keep_far ?_ GW212.out _) | exact HK.out)⟩
          ·rw [if_neg c45] at H
           have c45b0 : decide (0 < x6_3) = false := decide_eq_false c45
           clear c45
           simp only [Option.some.injEq,Prod.mk.injEq] at H
           obtain ⟨rfl,rfl,rfl,rfl,rfl,rfl⟩ := H
           have hnb61 := NB212_184.out
           have hnc61 := NB184_212.out
           have hnb62 := NB212_0.out
           have hnc62 := NB0_212.out
           have hcz63_0 : wr.cell? ⟨gb212,0,none⟩ = some (.int .i64 t209) := (blk_cell BK212.out 0).trans rfl
           have hcz63_1 : wr.cell? ⟨gb212,1,none⟩ = some (.int .i64 0) := (blk_cell BK212.out 1).trans rfl
           have hcz63_2 : wr.cell? ⟨gb212,2,none⟩ = some (.string (⟨#[]⟩ : ByteArray)) := (blk_cell BK212.out 2).trans rfl
           have hcz63_3 : wr.cell? ⟨gb212,3,none⟩ = some (u213003) := (blk_cell BK212.out 3).trans rfl
           have hfz63_0 := blk_frozen BK212.out 0
           have hfz63_1 := blk_frozen BK212.out 1
           have hfz63_2 := blk_frozen BK212.out 2
           have hfz63_3 := blk_frozen BK212.out 3
           have hnb64 := NB184_0.out
           have hnc64 := NB0_184.out
           have hcz65_0 : wr.cell? ⟨gb184,0,none⟩ = some (.int .i64 0) := (blk_cell BK184.out 0).trans rfl
           have hcz65_1 : wr.cell? ⟨gb184,1,none⟩ = some (.int .i64 0) := (blk_cell BK184.out 1).trans rfl
           have hcz65_2 : wr.cell? ⟨gb184,2,none⟩ = some (.string (⟨#[]⟩ : ByteArray)) := (blk_cell BK184.out 2).trans rfl
           have hcz65_3 : wr.cell? ⟨gb184,3,none⟩ = some (.slice none 0 0) := (blk_cell BK184.out 3).trans rfl
           have hfz65_0 := blk_frozen BK184.out 0
           have hfz65_1 := blk_frozen BK184.out 1
           have hfz65_2 := blk_frozen BK184.out 2
           have hfz65_3 := blk_frozen BK184.out 3
           obtain ⟨Ao66,co66,eo66⟩ := Kd.R_slice HO_213003.out
           subst eo66
           go_wp2
           refine bodyPost_ret (results_cell_row rfl _ _ gb184 27 #[.int .i64 t209,.int .i64 0,.string (⟨#[]⟩ : ByteArray),.slice Ao66 x213003_3.length co66] (0,0) _ rfl (by (with_reducible repeat (first | refine blk_drewN ?_ _ | refine blk_drew ?_ | refine blk_alloc ?_ _));refine blk_put (cs := #[.int .i64 t209,.int .i64 0,.string (⟨#[]⟩ : ByteArray),.slice none 0 0]) ?_ 3 _ rfl;(with_reducible repeat (first | refine blk_drewN ?_ _ | refine blk_drew ?_ | refine blk_alloc ?_ _));refine blk_put (cs := #[.int .i64 t209,.int .i64 0,.string (⟨#[]⟩ : ByteArray),.slice none 0 0]) ?_ 2 _ rfl;(with_reducible repeat (first | refine blk_drewN ?_ _ | refine blk_drew ?_ | refine blk_alloc ?_ _));refine blk_put (cs := #[.int .i64 t209,.int .i64 0,.string (⟨#[]⟩ : ByteArray),.slice none 0 0]) ?_ 1 _ rfl;(with_reducible repeat (first | refine blk_drewN ?_ _ | refine blk_drew ?_ | refine blk_alloc ?_ _));refine blk_put (cs := #[.int .i64 0,.int .i64 0,.string (⟨#[]⟩ : ByteArray),.slice none 0 0]) ?_ 0 _ rfl;(with_reducible repeat (first | refine blk_drewN ?_ _ | refine blk_drew ?_ | refine blk_alloc ?_ _));exact BK184.out) Try.underlying27 rfl (by kernel_rfl)) rfl ?_
           exact ⟨_,by first | rfl | (simp [*,errW_none,errW_some] <;> rfl),by (with_reducible repeat (first | apply Kd.R_alloc | apply Kd.R_drewN | apply Kd.R_drew));exact Kd.R_mono (Kd.R_far (p := ⟨gb184,3,none⟩) (Kd.R_far (p := ⟨gb184,2,none⟩) (Kd.R_far (p := ⟨gb184,1,none⟩) (Kd.R_far (p := ⟨gb184,0,none⟩) (Kd.R_mono HO_213003.out (fun k_ hk => (⟨hk,hk.1⟩ : _ ∧ k_ ≠ gb184))) (fun _ hk => hk.2) (.int .i64 t209)) (fun _ hk => hk.2) (.int .i64 0)) (fun _ hk => hk.2) (.string (⟨#[]⟩ : ByteArray))) (fun _ hk => hk.2) (.slice Ao66 x213003_3.length co66)) (fun _ hk => trivial),by repeat (first | (with_reducible first | exact HI0.out | apply IsS47.alloc | apply IsS47.drewN | apply IsS47.drew | apply IsS47.set_1 | apply IsS47.set_2 | refine IsS47.far ?_ NB0_184.out _ | refine IsS47.far ?_ NB0_212.out _) | exact HI0.out),by repeat (first | (with_reducible first | exact HB.out | apply below_alloc | apply pw_below_drewN | apply below_drew1 | refine below_set ?_ (IsS47.ge HI0.out) | refine below_set ?_ GE184.out | refine below_set ?_ GE212.out) | exact HB.out),by repeat (first | (with_reducible first | exact HK.out | apply KeepBut.set_ | apply keep_drewN | apply keep_drew | apply keep_alloc | refine keep_far ?_ GW184.out _ | refine keep_far ?_ GW212.out _) | exact HK.out)⟩

/-! ### spec_DrawGetTerm: function 5 -/
def spec_DrawGetTerm.f (k : Nat) (l0 : List Int) : Option (List Int) := (spec_l1New.f k l0).bind fun bt227 => ((spec_l2Draw.f k bt227.1 bt227.2.1 bt227.2.2 3).bind fun bt231 => ((spec_PutTerm.f k bt231.1 bt231.2.1 bt231.2.2.1 bt231.2.2.2.1).bind fun t239 => ((spec_l1Below.f bt227.1 bt231.2.2.2.2.1 bt231.2.2.2.2.2 5).bind fun bt242 => (if bt242.1 = 0 then ((spec_l1Below.f bt227.1 bt242.2.1 bt242.2.2 (t239.length : Int)).bind fun bt245 => ((spec_l1Int.f bt227.1 bt245.2.1 bt245.2.2 (([0,2,4,8,10,128] : List Int))).bind fun bt251 => (if 0 ≤ bt245.1 then (if bt245.1 < (t239.length : Int) then (some (t239.set (bt245.1 : Int).toNat ((bt251.1) % 256))) else (none)) else (none)))) else (if bt242.1 = 1 then ((spec_l1Below.f bt227.1 bt242.2.1 bt242.2.2 (t239.length : Int)).bind fun bt255 => (if 0 ≤ bt255.1 then (if bt255.1 ≤ (t239.length : Int) then (some (t239.take (bt255.1 : Int).toNat)) else (none)) else (none))) else (if bt242.1 = 2 then (if t239.length < 140737488355328 then (some (t239 ++ [0])) else (none)) else (some t239)))))))
theorem spec_DrawGetTerm.mono : ∀ a0 k,LeO (spec_DrawGetTerm.f k a0) (spec_DrawGetTerm.f (k + 1) a0) := by
 intro a0 k
 unfold spec_DrawGetTerm.f
 repeat' first
   | (with_reducible exact spec_PutTerm.mono _ _ _ _ _)
   | (with_reducible exact spec_l1New.mono _ _)
   | (with_reducible exact spec_l2Draw.mono _ _ _ _ _)
   | (with_reducible exact LeO.refl _)
   | (with_reducible exact LeO.none _)
   | (with_reducible refine LeO.ite ?_ ?_)
   | (with_reducible refine LeO.bind ?_ (fun _ => ?_))
   | exact spec_PutTerm.mono _ _ _ _ _
   | exact spec_l1New.mono _ _
   | exact spec_l2Draw.mono _ _ _ _ _
   | exact LeO.none _
   | refine LeO.ite ?_ ?_
   | refine LeO.bind ?_ (fun _ => ?_)
set_option maxHeartbeats 8000000 in
set_option maxRecDepth 100000 in
theorem spec_DrawGetTerm.calls (k : Nat) (A0 : Option Addr) (c0 : Nat) (l0 : List Int) (r : List Int) (w : World) (hr0 : Kd.C (Kd.int .u8) w A0 l0.length l0) (hc0 : l0.length ≤ c0) (h : spec_DrawGetTerm.f k l0 = some r) :
  Calls Try.prog 5 #[.slice A0 l0.length c0] w fun e w' => ∃ v0_ : Value,e = .returned (v0_) ∧ Kd.R (Kd.int .u8) 5 w' w.heap.size (fun _ => True) v0_ r ∧ Below w.heap.size w w' := by
 have HR0 := Aside0.mk hr0
 have HC0 := Aside0.mk hc0
 clear hr0 hc0
 have HB := Aside0.mk (Below.refl w.heap.size w)
 have H : ((spec_l1New.f k l0).bind fun bt227 => ((spec_l2Draw.f k bt227.1 bt227.2.1 bt227.2.2 3).bind fun bt231 => ((spec_PutTerm.f k bt231.1 bt231.2.1 bt231.2.2.1 bt231.2.2.2.1).bind fun t239 => ((spec_l1Below.f bt227.1 bt231.2.2.2.2.1 bt231.2.2.2.2.2 5).bind fun bt242 => (if bt242.1 = 0 then ((spec_l1Below.f bt227.1 bt242.2.1 bt242.2.2 (t239.length : Int)).bind fun bt245 => ((spec_l1Int.f bt227.1 bt245.2.1 bt245.2.2 (([0,2,4,8,10,128] : List Int))).bind fun bt251 => (if 0 ≤ bt245.1 then (if bt245.1 < (t239.length : Int) then (some (t239.set (bt245.1 : Int).toNat ((bt251.1) % 256))) else (none)) else (none)))) else (if bt242.1 = 1 then ((spec_l1Below.f bt227.1 bt242.2.1 bt242.2.2 (t239.length : Int)).bind fun bt255 => (if 0 ≤ bt255.1 then (if bt255.1 ≤ (t239.length : Int) then (some (t239.take (bt255.1 : Int).toNat)) else (none)) else (none))) else (if bt242.1 = 2 then (if t239.length < 140737488355328 then (some (t239 ++ [0])) else (none)) else (some t239)))))))) = some r := h
 clear h
 replace H := Option.bind_eq_some_iff.mp H
 obtain ⟨⟨t227,t228,t229⟩,A20,H⟩ := H
 replace H : ((spec_l2Draw.f k t227 t228 t229 3).bind fun bt231 => ((spec_PutTerm.f k bt231.1 bt231.2.1 bt231.2.2.1 bt231.2.2.2.1).bind fun t239 => ((spec_l1Below.f t227 bt231.2.2.2.2.1 bt231.2.2.2.2.2 5).bind fun bt242 => (if bt242.1 = 0 then ((spec_l1Below.f t227 bt242.2.1 bt242.2.2 (t239.length : Int)).bind fun bt245 => ((spec_l1Int.f t227 bt245.2.1 bt245.2.2 (([0,2,4,8,10,128] : List Int))).bind fun bt251 => (if 0 ≤ bt245.1 then (if bt245.1 < (t239.length : Int) then (some (t239.set (bt245.1 : Int).toNat ((bt251.1) % 256))) else (none)) else (none)))) else (if bt242.1 = 1 then ((spec_l1Below.f t227 bt242.2.1 bt242.2.2 (t239.length : Int)).bind fun bt255 => (if 0 ≤ bt255.1 then (if bt255.1 ≤ (t239.length : Int) then (some (t239.take (bt255.1 : Int).toNat)) else (none)) else (none))) else (if bt242.1 = 2 then (if t239.length < 140737488355328 then (some (t239 ++ [0])) else (none)) else (some t239))))))) = some r := H
 have A2 := Aside0.mk A20
 clear A20
 replace H := Option.bind_eq_some_iff.mp H
 obtain ⟨⟨t231,t232,t233,t234,t237,t238⟩,A30,H⟩ := H
 replace H : ((spec_PutTerm.f k t231 t232 t233 t234).bind fun t239 => ((spec_l1Below.f t227 t237 t238 5).bind fun bt242 => (if bt242.1 = 0 then ((spec_l1Below.f t227 bt242.2.1 bt242.2.2 (t239.length : Int)).bind fun bt245 => ((spec_l1Int.f t227 bt245.2.1 bt245.2.2 (([0,2,4,8,10,128] : List Int))).bind fun bt251 => (if 0 ≤ bt245.1 then (if bt245.1 < (t239.length : Int) then (some (t239.set (bt245.1 : Int).toNat ((bt251.1) % 256))) else (none)) else (none)))) else (if bt242.1 = 1 then ((spec_l1Below.f t227 bt242.2.1 bt242.2.2 (t239.length : Int)).bind fun bt255 => (if 0 ≤ bt255.1 then (if bt255.1 ≤ (t239.length : Int) then (some (t239.take (bt255.1 : Int).toNat)) else (none)) else (none))) else (if bt242.1 = 2 then (if t239.length < 140737488355328 then (some (t239 ++ [0])) else (none)) else (some t239)))))) = some r := H
 have A3 := Aside0.mk A30
 clear A30
 replace H := Option.bind_eq_some_iff.mp H
 obtain ⟨t239,A40,H⟩ := H
 replace H : ((spec_l1Below.f t227 t237 t238 5).bind fun bt242 => (if bt242.1 = 0 then ((spec_l1Below.f t227 bt242.2.1 bt242.2.2 (t239.length : Int)).bind fun bt245 => ((spec_l1Int.f t227 bt245.2.1 bt245.2.2 (([0,2,4,8,10,128] : List Int))).bind fun bt251 => (if 0 ≤ bt245.1 then (if bt245.1 < (t239.length : Int) then (some (t239.set (bt245.1 : Int).toNat ((bt251.1) % 256))) else (none)) else (none)))) else (if bt242.1 = 1 then ((spec_l1Below.f t227 bt242.2.1 bt242.2.2 (t239.length : Int)).bind fun bt255 => (if 0 ≤ bt255.1 then (if bt255.1 ≤ (t239.length : Int) then (some (t239.take (bt255.1 : Int).toNat)) else (none)) else (none))) else (if bt242.1 = 2 then (if t239.length < 140737488355328 then (some (t239 ++ [0])) else (none)) else (some t239))))) = some r := H
 have A4 := Aside0.mk A40
 clear A40
 replace H := Option.bind_eq_some_iff.mp H
 obtain ⟨⟨t242,t243,t244⟩,A50,H⟩ := H
 replace H : (if t242 = 0 then ((spec_l1Below.f t227 t243 t244 (t239.length : Int)).bind fun bt245 => ((spec_l1Int.f t227 bt245.2.1 bt245.2.2 (([0,2,4,8,10,128] : List Int))).bind fun bt251 => (if 0 ≤ bt245.1 then (if bt245.1 < (t239.length : Int) then (some (t239.set (bt245.1 : Int).toNat ((bt251.1) % 256))) else (none)) else (none)))) else (if t242 = 1 then ((spec_l1Below.f t227 t243 t244 (t239.length : Int)).bind fun bt255 => (if 0 ≤ bt255.1 then (if bt255.1 ≤ (t239.length : Int) then (some (t239.take (bt255.1 : Int).toNat)) else (none)) else (none))) else (if t242 = 2 then (if t239.length < 140737488355328 then (some (t239 ++ [0])) else (none)) else (some t239)))) = some r := H
 have A5 := Aside0.mk A50
 clear A50
 by_cases c6 : t242 = 0
 ·rw [if_pos c6] at H
  have c6b0 : (t242 == 0) = true := beq_iff_eq.mpr c6
  have c6b1 : (t242 != 0) = false := bne_eq_false_iff_eq.mpr c6
  clear c6
  replace H := Option.bind_eq_some_iff.mp H
  obtain ⟨⟨t245,t246,t247⟩,A70,H⟩ := H
  replace H : ((spec_l1Int.f t227 t246 t247 (([0,2,4,8,10,128] : List Int))).bind fun bt251 => (if 0 ≤ t245 then (if t245 < (t239.length : Int) then (some (t239.set (t245 : Int).toNat ((bt251.1) % 256))) else (none)) else (none))) = some r := H
  have A7 := Aside0.mk A70
  clear A70
  obtain ⟨y248,hy248⟩ : ∃ y_ : List Int,y_ = (([0,2,4,8,10,128] : List Int)) := ⟨_,rfl⟩
  replace H : ((spec_l1Int.f t227 t246 t247 y248).bind fun bt251 => (if 0 ≤ t245 then (if t245 < (t239.length : Int) then (some (t239.set (t245 : Int).toNat ((bt251.1) % 256))) else (none)) else (none))) = some r := by first | (rw [hy248];with_reducible exact H) | (have H2_ := (Option.bind_some _ _).symm.trans H;rw [hy248];with_reducible exact H2_) | (have H2_ := (Option.bind_some _ _).symm.trans H;with_reducible exact H2_) | with_reducible exact H | (rw [hy248];exact H) | exact H
  have Ny248 := Aside0.mk hy248
  clear hy248
  replace H := Option.bind_eq_some_iff.mp H
  obtain ⟨⟨t251,t252,t253⟩,A80,H⟩ := H
  replace H : (if 0 ≤ t245 then (if t245 < (t239.length : Int) then (some (t239.set (t245 : Int).toNat ((t251) % 256))) else (none)) else (none)) = some r := H
  have A8 := Aside0.mk A80
  clear A80
  by_cases c9 : 0 ≤ t245
  ·rw [if_pos c9] at H
   have c9b0 : decide (0 ≤ t245) = true := decide_eq_true c9
   clear c9
   by_cases c10 : t245 < (t239.length : Int)
   ·rw [if_pos c10] at H
    have c10b0 : decide (t245 < (t239.length : Int)) = true := decide_eq_true c10
    clear c10
    obtain ⟨y254,hy254⟩ : ∃ y_ : List Int,y_ = (t239.set (t245 : Int).toNat ((t251) % 256)) := ⟨_,rfl⟩
    replace H : (some y254) = some r := by first | (rw [hy254];with_reducible exact H) | (have H2_ := (Option.bind_some _ _).symm.trans H;rw [hy254];with_reducible exact H2_) | (have H2_ := (Option.bind_some _ _).symm.trans H;with_reducible exact H2_) | with_reducible exact H | (rw [hy254];exact H) | exact H
    have Ny254 := Aside0.mk hy254
    clear hy254
    obtain rfl := Option.some.inj H
    go_enter Try.func5,Try.ntmps5
    go_wp2_with (first | ((with_reducible refine gate_callee (f := 12) rfl ?_);refine goesL_ (some 6) rfl rfl Try.func12 (by kernel_rfl) rfl #[.slice A0 l0.length c0] rfl (by (try simp only [List.map_toArray,List.map_cons,List.map_nil]);first | done | rfl | (simp only [List.length_drop,List.length_take];rfl)) ?_;(with_reducible refine (spec_l1New.calls k _ _ l0 t227 t228 t229 w _ ?side1 ?side2 ?side3 A2.out).mono ?_);(case side1 => repeat (first | (with_reducible first | exact HB.out | apply below_alloc | apply pw_below_drewN | apply below_drew1) | exact HB.out));(case side2 => exact HR0.out);(case side3 => exact HC0.out);rintro e w12 ⟨g230,rfl,hi,hb,hb2⟩;refine ⟨_,rfl,?_⟩;have n0_ := Aside0.mk (hb);have n1_ := Aside0.mk (hi);clear HB;have HB := n0_;have HI230 := n1_;clear n0_ n1_;(try clear hb);(try clear hb2);(try clear hk);(try clear hi)) | ((with_reducible refine gate_callee (f := 14) rfl ?_);refine goesL_ (some 8) rfl rfl Try.func14 (by kernel_rfl) rfl #[.pointer (some ⟨g230,0,none⟩),.int .i64 3] rfl (by (try simp only [List.map_toArray,List.map_cons,List.map_nil]);first | done | rfl | (simp only [List.length_drop,List.length_take];rfl)) ?_;(with_reducible refine (spec_l2Draw.calls k g230 t227 t228 t229 3 t231 t232 t233 t234 t237 t238 w _ ?side1 ?side2 A3.out).mono ?_);(case side1 => repeat (first | (with_reducible first | exact HI230.out | apply IsS47.alloc | apply IsS47.drewN | apply IsS47.drew | apply IsS47.set_1 | apply IsS47.set_2) | exact HI230.out));(case side2 => repeat (first | (with_reducible first | exact HB.out | apply below_alloc | apply pw_below_drewN | apply below_drew1 | refine below_set ?_ (IsS47.ge HI230.out)) | exact HB.out));rintro e w13 ⟨v235,rfl,ho0,hi,hb,hk⟩;refine ⟨_,rfl,?_⟩;have n0_ := Aside0.mk (Kd.R_lower ho0 (below_size (by repeat (first | (with_reducible first | exact HB.out | apply below_alloc | apply pw_below_drewN | apply below_drew1 | refine below_set ?_ (IsS47.ge HI230.out)) | exact HB.out))));have n1_ := Aside0.mk (hb);have n2_ := Aside0.mk (hi);clear HB;clear HI230;have HO236 := n0_;have HB := n1_;have HI230 := n2_;clear n0_ n1_ n2_;(try clear hb);(try clear hb2);(try clear hk);(try clear hi);(try clear ho0);obtain ⟨Ao14,co14,eo14⟩ := Kd.R_slice HO236.out;subst eo14) | ((with_reducible refine gate_callee (f := 13) rfl ?_);refine goesL_ (some 9) rfl rfl Try.func13 (by kernel_rfl) rfl #[.agg #[.int .i64 t231,.int .i64 t232,.string t233,.slice Ao14 t234.length co14]] rfl (by (try simp only [List.map_toArray,List.map_cons,List.map_nil]);first | done | rfl | (simp only [List.length_drop,List.length_take];rfl)) ?_;(with_reducible refine (spec_PutTerm.calls k t231 t232 t233 _ _ t234 t239 _ ?side1 ?side2 A4.out).mono ?_);(case side1 => repeat (first | exact (Kd.R_reads' HO236.out).2.2 | (with_reducible refine Kd.C_alloc ?_ _) | (with_reducible refine Kd.C_drewN ?_ _) | (with_reducible refine Kd.C_drew ?_)));(case side2 => exact (Kd.R_reads' HO236.out).2.1);rintro e w15 ⟨v240,rfl,ho0,hb⟩;refine ⟨_,rfl,?_⟩;have n0_ := Aside0.mk (Kd.R_below (by (with_reducible repeat (first | apply Kd.R_alloc | apply Kd.R_drewN | apply Kd.R_drew));exact HO236.out) hb);have n1_ := Aside0.mk (Kd.R_lower ho0 (below_size (by repeat (first | (with_reducible first | exact HB.out | apply below_alloc | apply pw_below_drewN | apply below_drew1 | refine below_set ?_ (IsS47.ge HI230.out)) | exact HB.out))));have n2_ := Aside0.mk (IsS47.below (by repeat (first | (with_reducible first | exact HI230.out | apply IsS47.alloc | apply IsS47.drewN | apply IsS47.drew | apply IsS47.set_1 | apply IsS47.set_2) | exact HI230.out)) hb);have n3_ := Aside0.mk (below_step (by repeat (first | (with_reducible first | exact HB.out | apply below_alloc | apply pw_below_drewN | apply below_drew1 | refine below_set ?_ (IsS47.ge HI230.out)) | exact HB.out)) hb);clear HO236;clear HI230;clear HB;have HO236 := n0_;have HO241 := n1_;have HI230 := n2_;have HB := n3_;clear n0_ n1_ n2_ n3_;(try clear hb);(try clear hb2);(try clear hk);(try clear hi);(try clear ho0)) | ((with_reducible refine gate_callee (f := 15) rfl ?_);refine goesL_ (some 11) rfl rfl Try.func15 (by kernel_rfl) rfl #[.pointer (some ⟨g230,0,none⟩),.int .i64 5] rfl (by (try simp only [List.map_toArray,List.map_cons,List.map_nil]);first | done | rfl | (simp only [List.length_drop,List.length_take];rfl)) ?_;(with_reducible refine (spec_l1Below.calls g230 t227 t237 t238 5 t242 t243 t244 w _ ?side1 ?side2 A5.out).mono ?_);(case side1 => repeat (first | (with_reducible first | exact HI230.out | apply IsS47.alloc | apply IsS47.drewN | apply IsS47.drew | apply IsS47.set_1 | apply IsS47.set_2) | exact HI230.out));(case side2 => repeat (first | (with_reducible first | exact HB.out | apply below_alloc | apply pw_below_drewN | apply below_drew1 | refine below_set ?_ (IsS47.ge HI230.out)) | exact HB.out));rintro e w16 ⟨rfl,hi,hb,hk⟩;refine ⟨_,rfl,?_⟩;have n0_ := Aside0.mk (Kd.R_mono (Kd.R_keep (IsS47.apart (show IsS47 w _ g230 t227 t237 t238 from by repeat (first | (with_reducible first | exact HI230.out | apply IsS47.alloc | apply IsS47.drewN | apply IsS47.drew | apply IsS47.set_1 | apply IsS47.set_2) | exact HI230.out)) (by (with_reducible repeat (first | apply Kd.R_alloc | apply Kd.R_drewN | apply Kd.R_drew));exact HO236.out) (by decide)) hk (fun _ h => h.2)) (fun _ h => h.1));have n1_ := Aside0.mk (Kd.R_mono (Kd.R_keep (IsS47.apart (show IsS47 w _ g230 t227 t237 t238 from by repeat (first | (with_reducible first | exact HI230.out | apply IsS47.alloc | apply IsS47.drewN | apply IsS47.drew | apply IsS47.set_1 | apply IsS47.set_2) | exact HI230.out)) (by (with_reducible repeat (first | apply Kd.R_alloc | apply Kd.R_drewN | apply Kd.R_drew));exact HO241.out) (by decide)) hk (fun _ h => h.2)) (fun _ h => h.1));have n2_ := Aside0.mk (hb);have n3_ := Aside0.mk (hi);clear HO236;clear HO241;clear HB;clear HI230;have HO236 := n0_;have HO241 := n1_;have HB := n2_;have HI230 := n3_;clear n0_ n1_ n2_ n3_;(try clear hb);(try clear hb2);(try clear hk);(try clear hi);obtain ⟨Ao17,co17,eo17⟩ := Kd.R_slice HO241.out;subst eo17) | ((with_reducible refine gate_callee (f := 15) rfl ?_);refine goesL_ (some 18) rfl rfl Try.func15 (by kernel_rfl) rfl #[.pointer (some ⟨g230,0,none⟩),.int .i64 (t239.length : Int)] rfl (by (try simp only [List.map_toArray,List.map_cons,List.map_nil]);first | done | rfl | (simp only [List.length_drop,List.length_take];rfl)) ?_;(with_reducible refine (spec_l1Below.calls g230 t227 t243 t244 (t239.length : Int) t245 t246 t247 w _ ?side1 ?side2 A7.out).mono ?_);(case side1 => repeat (first | (with_reducible first | exact HI230.out | apply IsS47.alloc | apply IsS47.drewN | apply IsS47.drew | apply IsS47.set_1 | apply IsS47.set_2) | exact HI230.out));(case side2 => repeat (first | (with_reducible first | exact HB.out | apply below_alloc | apply pw_below_drewN | apply below_drew1 | refine below_set ?_ (IsS47.ge HI230.out)) | exact HB.out));rintro e w18 ⟨rfl,hi,hb,hk⟩;refine ⟨_,rfl,?_⟩;have n0_ := Aside0.mk (Kd.R_mono (Kd.R_keep (IsS47.apart (show IsS47 w _ g230 t227 t243 t244 from by repeat (first | (with_reducible first | exact HI230.out | apply IsS47.alloc | apply IsS47.drewN | apply IsS47.drew | apply IsS47.set_1 | apply IsS47.set_2) | exact HI230.out)) (by (with_reducible repeat (first | apply Kd.R_alloc | apply Kd.R_drewN | apply Kd.R_drew));exact HO236.out) (by decide)) hk (fun _ h => h.2)) (fun _ h => h.1));have n1_ := Aside0.mk (Kd.R_mono (Kd.R_keep (IsS47.apart (show IsS47 w _ g230 t227 t243 t244 from by repeat (first | (with_reducible first | exact HI230.out | apply IsS47.alloc | apply IsS47.drewN | apply IsS47.drew | apply IsS47.set_1 | apply IsS47.set_2) | exact HI230.out)) (by (with_reducible repeat (first | apply Kd.R_alloc | apply Kd.R_drewN | apply Kd.R_drew));exact HO241.out) (by decide)) hk (fun _ h => h.2)) (fun _ h => h.1));have n2_ := Aside0.mk (hb);have n3_ := Aside0.mk (hi);clear HO236;clear HO241;clear HB;clear HI230;have HO236 := n0_;have HO241 := n1_;have HB := n2_;have HI230 := n3_;clear n0_ n1_ n2_ n3_;(try clear hb);(try clear hb2);(try clear hk);(try clear hi)) | ((with_reducible refine gate_dst (N := 20) rfl ?_);refine Kd.R_lit (Kd.int .i64) _ 3 ?hg (N := 20) ?hd (xs := ([0,2,4,8,10,128] : List Int)) (inner := [.int .i64 0,.int .i64 2,.int .i64 4,.int .i64 8,.int .i64 10,.int .i64 128]) (ok := fun _ => True) (okp := fun _ => True) ?hr ?hp (fun _ hk => hk) trivial (Below.refl _ _) (Nat.le_refl _) (by simp) ?_;(case hd => rfl);(case hg => rfl);(case hr => first | (go_simp;done) | (go_simp;rfl));(case hp => exact (Reps.one (show Kd.M (Kd.int .i64) _ _ _ 0 [.int .i64 0] from rfl) (Reps.one (show Kd.M (Kd.int .i64) _ _ _ 2 [.int .i64 2] from rfl) (Reps.one (show Kd.M (Kd.int .i64) _ _ _ 4 [.int .i64 4] from rfl) (Reps.one (show Kd.M (Kd.int .i64) _ _ _ 8 [.int .i64 8] from rfl) (Reps.one (show Kd.M (Kd.int .i64) _ _ _ 10 [.int .i64 10] from rfl) (Reps.one (show Kd.M (Kd.int .i64) _ _ _ 128 [.int .i64 128] from rfl) (Reps.none _ _))))))));intro v249 w19 ho20 hb hg_ hnew_;clear hg_ hnew_;(first | rw [← Ny248.out] at ho20 | (simp only [Int.reduceToNat] at ho20;rw [← Ny248.out] at ho20));have n0_ := Aside0.mk (Kd.R_below (by (with_reducible repeat (first | apply Kd.R_alloc | apply Kd.R_drewN | apply Kd.R_drew));exact HO236.out) hb);have n1_ := Aside0.mk (Kd.R_below (by (with_reducible repeat (first | apply Kd.R_alloc | apply Kd.R_drewN | apply Kd.R_drew));exact HO241.out) hb);have n2_ := Aside0.mk (Kd.R_lower ho20 (below_size (by repeat (first | (with_reducible first | exact HB.out | apply below_alloc | apply pw_below_drewN | apply below_drew1 | refine below_set ?_ (IsS47.ge HI230.out)) | exact HB.out))));have n3_ := Aside0.mk (IsS47.below (by repeat (first | (with_reducible first | exact HI230.out | apply IsS47.alloc | apply IsS47.drewN | apply IsS47.drew | apply IsS47.set_1 | apply IsS47.set_2) | exact HI230.out)) hb);have n4_ := Aside0.mk (below_step (by repeat (first | (with_reducible first | exact HB.out | apply below_alloc | apply pw_below_drewN | apply below_drew1 | refine below_set ?_ (IsS47.ge HI230.out)) | exact HB.out)) hb);clear HO236;clear HO241;clear HI230;clear HB;have HO236 := n0_;have HO241 := n1_;have HO250 := n2_;have HI230 := n3_;have HB := n4_;clear n0_ n1_ n2_ n3_ n4_;clear hb ho20;obtain ⟨Ao21,co21,eo21⟩ := Kd.R_slice HO250.out;subst eo21) | ((with_reducible refine gate_callee (f := 16) rfl ?_);refine goesL_ (some 21) rfl rfl Try.func16 (by kernel_rfl) rfl #[.pointer (some ⟨g230,0,none⟩),.slice Ao21 y248.length co21] rfl (by (try simp only [List.map_toArray,List.map_cons,List.map_nil]);first | done | rfl | (simp only [List.length_drop,List.length_take];rfl)) ?_;(with_reducible refine (spec_l1Int.calls g230 t227 t246 t247 _ _ y248 t251 t252 t253 w _ ?side1 ?side2 ?side3 ?side4 ?side5 A8.out).mono ?_);(case side1 => repeat (first | (with_reducible first | exact HI230.out | apply IsS47.alloc | apply IsS47.drewN | apply IsS47.drew | apply IsS47.set_1 | apply IsS47.set_2) | exact HI230.out));(case side2 => repeat (first | (with_reducible first | exact HB.out | apply below_alloc | apply pw_below_drewN | apply below_drew1 | refine below_set ?_ (IsS47.ge HI230.out)) | exact HB.out));(case side3 => repeat (first | exact (Kd.R_reads' HO250.out).2.2 | (with_reducible refine Kd.C_alloc ?_ _) | (with_reducible refine Kd.C_drewN ?_ _) | (with_reducible refine Kd.C_drew ?_)));(case side4 => exact (Kd.R_reads' HO250.out).2.1);(case side5 => exact far_slice (IsS47.own_ne HI230.out HO250.out (by decide)));rintro e w22 ⟨rfl,hi,hb,hk⟩;refine ⟨_,rfl,?_⟩;have n0_ := Aside0.mk (Kd.R_mono (Kd.R_keep (IsS47.apart (show IsS47 w _ g230 t227 t246 t247 from by repeat (first | (with_reducible first | exact HI230.out | apply IsS47.alloc | apply IsS47.drewN | apply IsS47.drew | apply IsS47.set_1 | apply IsS47.set_2) | exact HI230.out)) (by (with_reducible repeat (first | apply Kd.R_alloc | apply Kd.R_drewN | apply Kd.R_drew));exact HO236.out) (by decide)) hk (fun _ h => h.2)) (fun _ h => h.1));have n1_ := Aside0.mk (Kd.R_mono (Kd.R_keep (IsS47.apart (show IsS47 w _ g230 t227 t246 t247 from by repeat (first | (with_reducible first | exact HI230.out | apply IsS47.alloc | apply IsS47.drewN | apply IsS47.drew | apply IsS47.set_1 | apply IsS47.set_2) | exact HI230.out)) (by (with_reducible repeat (first | apply Kd.R_alloc | apply Kd.R_drewN | apply Kd.R_drew));exact HO241.out) (by decide)) hk (fun _ h => h.2)) (fun _ h => h.1));have n2_ := Aside0.mk (Kd.R_mono (Kd.R_keep (IsS47.apart (show IsS47 w _ g230 t227 t246 t247 from by repeat (first | (with_reducible first | exact HI230.out | apply IsS47.alloc | apply IsS47.drewN | apply IsS47.drew | apply IsS47.set_1 | apply IsS47.set_2) | exact HI230.out)) (by (with_reducible repeat (first | apply Kd.R_alloc | apply Kd.R_drewN | apply Kd.R_drew));exact HO250.out) (by decide)) hk (fun _ h => h.2)) (fun _ h => h.1));have n3_ := Aside0.mk (hb);have n4_ := Aside0.mk (hi);clear HO236;clear HO241;clear HO250;clear HB;clear HI230;have HO236 := n0_;have HO241 := n1_;have HO250 := n2_;have HB := n3_;have HI230 := n4_;clear n0_ n1_ n2_ n3_ n4_;(try clear hb);(try clear hb2);(try clear hk);(try clear hi);have p11 : 0 ≤ (t245 : Int) := of_decide_eq_true (by first | (with_reducible assumption) | assumption);have q11 : (t245 : Int) < ((t239.length : Int) : Int) := of_decide_eq_true (by first | (with_reducible assumption) | assumption);obtain ⟨go11,co11,eo11,gb11,gl11,cl11,HG11⟩ := Kd.R_form HO241.out (by omega);(first | cases eo11 | (injection eo11 with ea_ en_ ec_;(first | subst ea_ | (injection ea_ with ea_;subst ea_));subst ec_;clear en_));have GB11 := Aside0.mk gb11;have GG11 := Aside0.mk HG11;clear gb11 gl11 HG11;obtain ⟨hx11_0,hf11_0⟩ := Kd.R_celln 0 HO241.out (t245 : Int) p11 q11;replace p11 := eq_true p11;replace q11 := eq_true q11;obtain ⟨hy23_,hz23_⟩ := Kd.R_celln 0 HO241.out (t245 : Int) (of_decide_eq_true (by first | (with_reducible assumption) | assumption)) (of_decide_eq_true (by first | (with_reducible assumption) | assumption));have HP23 := Kd.R_putg HO241.out (t245 : Int) ((t251) % 256)) | ((with_reducible refine gate_store (t := 5) (p := 23) rfl ?_);refine store_event (t := 5) (p := 23) (v := ?vo_w24) (w1 := (w22.setCell ⟨go11,(t245 : Int).toNat,none⟩ (.int .u8 ((t251) % 256)))) ?hg ?ho ?hn ?hr ?_;(case ho => rfl);(case hg => rfl);(case hn => rfl);(case hr => first | (go_simp;done) | (go_simp;rfl));intro w24 hw;have hg : w22.grownBy w24 (some go11) := (by rw [hw];exact HP23.2);have hp_ : Kd.R (Kd.int .u8) 5 w24 w.heap.size (fun _ => True) (.slice (some ⟨go11,0,none⟩) t239.length co17) y254 := (by rw [hw,Ny254.out];exact HP23.1);clear HP23;have n0_ := Aside0.mk (IsS47.grown (by repeat (first | (with_reducible first | exact HI230.out | apply IsS47.alloc | apply IsS47.drewN | apply IsS47.drew | apply IsS47.set_1 | apply IsS47.set_2) | exact HI230.out)) hg (IsS47.own_ne HI230.out HO241.out (by decide)));have n1_ := Aside0.mk (Kd.R_over' (v := (.slice (some ⟨go11,0,none⟩) t239.length co17)) (by (with_reducible repeat (first | apply Kd.R_alloc | apply Kd.R_drewN | apply Kd.R_drew));exact HO236.out) (Kd.R_typed HO241.out) (by decide) hg);have n2_ := Aside0.mk (hp_);have n3_ := Aside0.mk (Kd.R_over' (v := (.slice (some ⟨go11,0,none⟩) t239.length co17)) (by (with_reducible repeat (first | apply Kd.R_alloc | apply Kd.R_drewN | apply Kd.R_drew));exact HO250.out) (Kd.R_typed HO241.out) (by decide) hg);have n4_ := Aside0.mk ((by rw [hw];exact below_set (HB.out) GB11.out : Below w.heap.size w w24));clear HI230;clear HO236;clear HO241;clear HO250;clear HB;have HI230 := n0_;have HO236 := n1_;have HO241 := n2_;have HO250 := n3_;have HB := n4_;clear n0_ n1_ n2_ n3_ n4_;clear hg hw hp_))
    go_ret
    exact ⟨_,by first | rfl | (simp [*,errW_none,errW_some] <;> rfl),by (with_reducible repeat (first | apply Kd.R_alloc | apply Kd.R_drewN | apply Kd.R_drew));exact HO241.out,by repeat (first | (with_reducible first | exact HB.out | apply below_alloc | apply pw_below_drewN | apply below_drew1 | refine below_set ?_ (IsS47.ge HI230.out)) | exact HB.out)⟩
   ·rw [if_neg c10] at H
    exact absurd H (by simp)
  ·rw [if_neg c9] at H
   exact absurd H (by simp)
 ·rw [if_neg c6] at H
  have c6b0 : (t242 == 0) = false := beq_eq_false_iff_ne.mpr c6
  have c6b1 : (t242 != 0) = true := bne_iff_ne.mpr c6
  by_cases c25 : t242 = 1
  ·rw [if_pos c25] at H
   have c25b0 : (t242 == 1) = true := beq_iff_eq.mpr c25
   have c25b1 : (t242 != 1) = false := bne_eq_false_iff_eq.mpr c25
   clear c25
   replace H := Option.bind_eq_some_iff.mp H
   obtain ⟨⟨t255,t256,t257⟩,A260,H⟩ := H
   replace H : (if 0 ≤ t255 then (if t255 ≤ (t239.length : Int) then (some (t239.take (t255 : Int).toNat)) else (none)) else (none)) = some r := H
   have A26 := Aside0.mk A260
   clear A260
   by_cases c27 : 0 ≤ t255
   ·rw [if_pos c27] at H
    have c27b0 := eq_true c27
    have c27b1 : decide (0 ≤ t255) = true := decide_eq_true c27
    clear c27
    by_cases c28 : t255 ≤ (t239.length : Int)
    ·rw [if_pos c28] at H
     have c28b0 := eq_true c28
     have c28b1 : decide (t255 ≤ (t239.length : Int)) = true := decide_eq_true c28
     clear c28
     obtain ⟨y258,hy258⟩ : ∃ y_ : List Int,y_ = (t239.take (t255 : Int).toNat) := ⟨_,rfl⟩
     replace H : (some y258) = some r := by first | (rw [hy258];with_reducible exact H) | (have H2_ := (Option.bind_some _ _).symm.trans H;rw [hy258];with_reducible exact H2_) | (have H2_ := (Option.bind_some _ _).symm.trans H;with_reducible exact H2_) | with_reducible exact H | (rw [hy258];exact H) | exact H
     have Ny258 := Aside0.mk hy258
     clear hy258
     obtain rfl := Option.some.inj H
     go_enter Try.func5,Try.ntmps5
     go_wp2_with (first | ((with_reducible refine gate_callee (f := 12) rfl ?_);refine goesL_ (some 6) rfl rfl Try.func12 (by kernel_rfl) rfl #[.slice A0 l0.length c0] rfl (by (try simp only [List.map_toArray,List.map_cons,List.map_nil]);first | done | rfl | (simp only [List.length_drop,List.length_take];rfl)) ?_;(with_reducible refine (spec_l1New.calls k _ _ l0 t227 t228 t229 w _ ?side1 ?side2 ?side3 A2.out).mono ?_);(case side1 => repeat (first | (with_reducible first | exact HB.out | apply below_alloc | apply pw_below_drewN | apply below_drew1) | exact HB.out));(case side2 => exact HR0.out);(case side3 => exact HC0.out);rintro e w29 ⟨g230,rfl,hi,hb,hb2⟩;refine ⟨_,rfl,?_⟩;have n0_ := Aside0.mk (hb);have n1_ := Aside0.mk (hi);clear HB;have HB := n0_;have HI230 := n1_;clear n0_ n1_;(try clear hb);(try clear hb2);(try clear hk);(try clear hi)) | ((with_reducible refine gate_callee (f := 14) rfl ?_);refine goesL_ (some 8) rfl rfl Try.func14 (by kernel_rfl) rfl #[.pointer (some ⟨g230,0,none⟩),.int .i64 3] rfl (by (try simp only [List.map_toArray,List.map_cons,List.map_nil]);first | done | rfl | (simp only [List.length_drop,List.length_take];rfl)) ?_;(with_reducible refine (spec_l2Draw.calls k g230 t227 t228 t229 3 t231 t232 t233 t234 t237 t238 w _ ?side1 ?side2 A3.out).mono ?_);(case side1 => repeat (first | (with_reducible first | exact HI230.out | apply IsS47.alloc | apply IsS47.drewN | apply IsS47.drew | apply IsS47.set_1 | apply IsS47.set_2) | exact HI230.out));(case side2 => repeat (first | (with_reducible first | exact HB.out | apply below_alloc | apply pw_below_drewN | apply below_drew1 | refine below_set ?_ (IsS47.ge HI230.out)) | exact HB.out));rintro e w30 ⟨v235,rfl,ho0,hi,hb,hk⟩;refine ⟨_,rfl,?_⟩;have n0_ := Aside0.mk (Kd.R_lower ho0 (below_size (by repeat (first | (with_reducible first | exact HB.out | apply below_alloc | apply pw_below_drewN | apply below_drew1 | refine below_set ?_ (IsS47.ge HI230.out)) | exact HB.out))));have n1_ := Aside0.mk (hb);have n2_ := Aside0.mk (hi);clear HB;clear HI230;have HO236 := n0_;have HB := n1_;have HI230 := n2_;clear n0_ n1_ n2_;(try clear hb);(try clear hb2);(try clear hk);(try clear hi);(try clear ho0);obtain ⟨Ao31,co31,eo31⟩ := Kd.R_slice HO236.out;subst eo31) | ((with_reducible refine gate_callee (f := 13) rfl ?_);refine goesL_ (some 9) rfl rfl Try.func13 (by kernel_rfl) rfl #[.agg #[.int .i64 t231,.int .i64 t232,.string t233,.slice Ao31 t234.length co31]] rfl (by (try simp only [List.map_toArray,List.map_cons,List.map_nil]);first | done | rfl | (simp only [List.length_drop,List.length_take];rfl)) ?_;(with_reducible refine (spec_PutTerm.calls k t231 t232 t233 _ _ t234 t239 _ ?side1 ?side2 A4.out).mono ?_);(case side1 => repeat (first | exact (Kd.R_reads' HO236.out).2.2 | (with_reducible refine Kd.C_alloc ?_ _) | (with_reducible refine Kd.C_drewN ?_ _) | (with_reducible refine Kd.C_drew ?_)));(case side2 => exact (Kd.R_reads' HO236.out).2.1);rintro e w32 ⟨v240,rfl,ho0,hb⟩;refine ⟨_,rfl,?_⟩;have n0_ := Aside0.mk (Kd.R_below (by (with_reducible repeat (first | apply Kd.R_alloc | apply Kd.R_drewN | apply Kd.R_drew));exact HO236.out) hb);have n1_ := Aside0.mk (Kd.R_lower ho0 (below_size (by repeat (first | (with_reducible first | exact HB.out | apply below_alloc | apply pw_below_drewN | apply below_drew1 | refine below_set ?_ (IsS47.ge HI230.out)) | exact HB.out))));have n2_ := Aside0.mk (IsS47.below (by repeat (first | (with_reducible first | exact HI230.out | apply IsS47.alloc | apply IsS47.drewN | apply IsS47.drew | apply IsS47.set_1 | apply IsS47.set_2) | exact HI230.out)) hb);have n3_ := Aside0.mk (below_step (by repeat (first | (with_reducible first | exact HB.out | apply below_alloc | apply pw_below_drewN | apply below_drew1 | refine below_set ?_ (IsS47.ge HI230.out)) | exact HB.out)) hb);clear HO236;clear HI230;clear HB;have HO236 := n0_;have HO241 := n1_;have HI230 := n2_;have HB := n3_;clear n0_ n1_ n2_ n3_;(try clear hb);(try clear hb2);(try clear hk);(try clear hi);(try clear ho0)) | ((with_reducible refine gate_callee (f := 15) rfl ?_);refine goesL_ (some 11) rfl rfl Try.func15 (by kernel_rfl) rfl #[.pointer (some ⟨g230,0,none⟩),.int .i64 5] rfl (by (try simp only [List.map_toArray,List.map_cons,List.map_nil]);first | done | rfl | (simp only [List.length_drop,List.length_take];rfl)) ?_;(with_reducible refine (spec_l1Below.calls g230 t227 t237 t238 5 t242 t243 t244 w _ ?side1 ?side2 A5.out).mono ?_);(case side1 => repeat (first | (with_reducible first | exact HI230.out | apply IsS47.alloc | apply IsS47.drewN | apply IsS47.drew | apply IsS47.set_1 | apply IsS47.set_2) | exact HI230.out));(case side2 => repeat (first | (with_reducible first | exact HB.out | apply below_alloc | apply pw_below_drewN | apply below_drew1 | refine below_set ?_ (IsS47.ge HI230.out)) | exact HB.out));rintro e w33 ⟨rfl,hi,hb,hk⟩;refine ⟨_,rfl,?_⟩;have n0_ := Aside0.mk (Kd.R_mono (Kd.R_keep (IsS47.apart (show IsS47 w _ g230 t227 t237 t238 from by repeat (first | (with_reducible first | exact HI230.out | apply IsS47.alloc | apply IsS47.drewN | apply IsS47.drew | apply IsS47.set_1 | apply IsS47.set_2) | exact HI230.out)) (by (with_reducible repeat (first | apply Kd.R_alloc | apply Kd.R_drewN | apply Kd.R_drew));exact HO236.out) (by decide)) hk (fun _ h => h.2)) (fun _ h => h.1));have n1_ := Aside0.mk (Kd.R_mono (Kd.R_keep (IsS47.apart (show IsS47 w _ g230 t227 t237 t238 from by repeat (first | (with_reducible first | exact HI230.out | apply IsS47.alloc | apply IsS47.drewN | apply IsS47.drew | apply IsS47.set_1 | apply IsS47.set_2) | exact HI230.out)) (by (with_reducible repeat (first | apply Kd.R_alloc | apply Kd.R_drewN | apply Kd.R_drew));exact HO241.out) (by decide)) hk (fun _ h => h.2)) (fun _ h => h.1));have n2_ := Aside0.mk (hb);have n3_ := Aside0.mk (hi);clear HO236;clear HO241;clear HB;clear HI230;have HO236 := n0_;have HO241 := n1_;have HB := n2_;have HI230 := n3_;clear n0_ n1_ n2_ n3_;(try clear hb);(try clear hb2);(try clear hk);(try clear hi);obtain ⟨Ao34,co34,eo34⟩ := Kd.R_slice HO241.out;subst eo34) | ((with_reducible refine gate_callee (f := 15) rfl ?_);refine goesL_ (some 30) rfl rfl Try.func15 (by kernel_rfl) rfl #[.pointer (some ⟨g230,0,none⟩),.int .i64 (t239.length : Int)] rfl (by (try simp only [List.map_toArray,List.map_cons,List.map_nil]);first | done | rfl | (simp only [List.length_drop,List.length_take];rfl)) ?_;(with_reducible refine (spec_l1Below.calls g230 t227 t243 t244 (t239.length : Int) t255 t256 t257 w _ ?side1 ?side2 A26.out).mono ?_);(case side1 => repeat (first | (with_reducible first | exact HI230.out | apply IsS47.alloc | apply IsS47.drewN | apply IsS47.drew | apply IsS47.set_1 | apply IsS47.set_2) | exact HI230.out));(case side2 => repeat (first | (with_reducible first | exact HB.out | apply below_alloc | apply pw_below_drewN | apply below_drew1 | refine below_set ?_ (IsS47.ge HI230.out)) | exact HB.out));rintro e w35 ⟨rfl,hi,hb,hk⟩;refine ⟨_,rfl,?_⟩;have n0_ := Aside0.mk (Kd.R_mono (Kd.R_keep (IsS47.apart (show IsS47 w _ g230 t227 t243 t244 from by repeat (first | (with_reducible first | exact HI230.out | apply IsS47.alloc | apply IsS47.drewN | apply IsS47.drew | apply IsS47.set_1 | apply IsS47.set_2) | exact HI230.out)) (by (with_reducible repeat (first | apply Kd.R_alloc | apply Kd.R_drewN | apply Kd.R_drew));exact HO236.out) (by decide)) hk (fun _ h => h.2)) (fun _ h => h.1));have n1_ := Aside0.mk (Kd.R_mono (Kd.R_keep (IsS47.apart (show IsS47 w _ g230 t227 t243 t244 from by repeat (first | (with_reducible first | exact HI230.out | apply IsS47.alloc | apply IsS47.drewN | apply IsS47.drew | apply IsS47.set_1 | apply IsS47.set_2) | exact HI230.out)) (by (with_reducible repeat (first | apply Kd.R_alloc | apply Kd.R_drewN | apply Kd.R_drew));exact HO241.out) (by decide)) hk (fun _ h => h.2)) (fun _ h => h.1));have n2_ := Aside0.mk (hb);have n3_ := Aside0.mk (hi);clear HO236;clear HO241;clear HB;clear HI230;have HO236 := n0_;have HO241 := n1_;have HB := n2_;have HI230 := n3_;clear n0_ n1_ n2_ n3_;(try clear hb);(try clear hb2);(try clear hk);(try clear hi);have q36 : (t255 : Int) ≤ ((t239.length : Int) : Int) := of_decide_eq_true (by first | (with_reducible assumption) | assumption);obtain ⟨i036,hi036,_,hsz36,_⟩ := info_parts info5;have hcut36 := cut_to (P := Try.prog) 22 5 .i64 Try.underlying22 hi036 Ao34 t239.length co34 t255 (of_decide_eq_true (by first | (with_reducible assumption) | assumption)) q36 (Kd.R_reads' HO241.out).2.1;have hr36 := Kd.R_take (m := (t255 : Int).toNat) HO241.out (by omega);have hy36 : y258.length = (t255 : Int).toNat := (by rw [Ny258.out,List.length_take];omega);rw [← Ny258.out] at hr36;rw [← hy36] at hr36 hcut36;clear hy36 hi036 hsz36 HO241;have HO260 := Aside0.mk hr36;clear hr36;replace q36 := eq_true q36))
     go_ret
     exact ⟨_,by first | rfl | (simp [*,errW_none,errW_some] <;> rfl),by (with_reducible repeat (first | apply Kd.R_alloc | apply Kd.R_drewN | apply Kd.R_drew));exact HO260.out,by repeat (first | (with_reducible first | exact HB.out | apply below_alloc | apply pw_below_drewN | apply below_drew1 | refine below_set ?_ (IsS47.ge HI230.out)) | exact HB.out)⟩
    ·rw [if_neg c28] at H
     exact absurd H (by simp)
   ·rw [if_neg c27] at H
    exact absurd H (by simp)
  ·rw [if_neg c25] at H
   have c25b0 : (t242 == 1) = false := beq_eq_false_iff_ne.mpr c25
   have c25b1 : (t242 != 1) = true := bne_iff_ne.mpr c25
   by_cases c37 : t242 = 2
   ·rw [if_pos c37] at H
    have c37b0 : (t242 == 2) = true := beq_iff_eq.mpr c37
    have c37b1 : (t242 != 2) = false := bne_eq_false_iff_eq.mpr c37
    clear c37
    by_cases c38 : t239.length < 140737488355328
    ·rw [if_pos c38] at H
     have LMc38 := Aside0.mk c38
     clear c38
     obtain ⟨y261,hy261⟩ : ∃ y_ : List Int,y_ = (t239 ++ [0]) := ⟨_,rfl⟩
     replace H : (some y261) = some r := by first | (rw [hy261];with_reducible exact H) | (have H2_ := (Option.bind_some _ _).symm.trans H;rw [hy261];with_reducible exact H2_) | (have H2_ := (Option.bind_some _ _).symm.trans H;with_reducible exact H2_) | with_reducible exact H | (rw [hy261];exact H) | exact H
     have Ny261 := Aside0.mk hy261
     clear hy261
     obtain rfl := Option.some.inj H
     go_enter Try.func5,Try.ntmps5
     go_wp2_with (first | ((with_reducible refine gate_callee (f := 12) rfl ?_);refine goesL_ (some 6) rfl rfl Try.func12 (by kernel_rfl) rfl #[.slice A0 l0.length c0] rfl (by (try simp only [List.map_toArray,List.map_cons,List.map_nil]);first | done | rfl | (simp only [List.length_drop,List.length_take];rfl)) ?_;(with_reducible refine (spec_l1New.calls k _ _ l0 t227 t228 t229 w _ ?side1 ?side2 ?side3 A2.out).mono ?_);(case side1 => repeat (first | (with_reducible first | exact HB.out | apply below_alloc | apply pw_below_drewN | apply below_drew1) | exact HB.out));(case side2 => exact HR0.out);(case side3 => exact HC0.out);rintro e w39 ⟨g230,rfl,hi,hb,hb2⟩;refine ⟨_,rfl,?_⟩;have n0_ := Aside0.mk (hb);have n1_ := Aside0.mk (hi);clear HB;have HB := n0_;have HI230 := n1_;clear n0_ n1_;(try clear hb);(try clear hb2);(try clear hk);(try clear hi)) | ((with_reducible refine gate_callee (f := 14) rfl ?_);refine goesL_ (some 8) rfl rfl Try.func14 (by kernel_rfl) rfl #[.pointer (some ⟨g230,0,none⟩),.int .i64 3] rfl (by (try simp only [List.map_toArray,List.map_cons,List.map_nil]);first | done | rfl | (simp only [List.length_drop,List.length_take];rfl)) ?_;(with_reducible refine (spec_l2Draw.calls k g230 t227 t228 t229 3 t231 t232 t233 t234 t237 t238 w _ ?side1 ?side2 A3.out).mono ?_);(case side1 => repeat (first | (with_reducible first | exact HI230.out | apply IsS47.alloc | apply IsS47.drewN | apply IsS47.drew | apply IsS47.set_1 | apply IsS47.set_2) | exact HI230.out));(case side2 => repeat (first | (with_reducible first | exact HB.out | apply below_alloc | apply pw_below_drewN | apply below_drew1 | refine below_set ?_ (IsS47.ge HI230.out)) | exact HB.out));rintro e w40 ⟨v235,rfl,ho0,hi,hb,hk⟩;refine ⟨_,rfl,?_⟩;have n0_ := Aside0.mk (Kd.R_lower ho0 (below_size (by repeat (first | (with_reducible first | exact HB.out | apply below_alloc | apply pw_below_drewN | apply below_drew1 | refine below_set ?_ (IsS47.ge HI230.out)) | exact HB.out))));have n1_ := Aside0.mk (hb);have n2_ := Aside0.mk (hi);clear HB;clear HI230;have HO236 := n0_;have HB := n1_;have HI230 := n2_;clear n0_ n1_ n2_;(try clear hb);(try clear hb2);(try clear hk);(try clear hi);(try clear ho0);obtain ⟨Ao41,co41,eo41⟩ := Kd.R_slice HO236.out;subst eo41) | ((with_reducible refine gate_callee (f := 13) rfl ?_);refine goesL_ (some 9) rfl rfl Try.func13 (by kernel_rfl) rfl #[.agg #[.int .i64 t231,.int .i64 t232,.string t233,.slice Ao41 t234.length co41]] rfl (by (try simp only [List.map_toArray,List.map_cons,List.map_nil]);first | done | rfl | (simp only [List.length_drop,List.length_take];rfl)) ?_;(with_reducible refine (spec_PutTerm.calls k t231 t232 t233 _ _ t234 t239 _ ?side1 ?side2 A4.out).mono ?_);(case side1 => repeat (first | exact (Kd.R_reads' HO236.out).2.2 | (with_reducible refine Kd.C_alloc ?_ _) | (with_reducible refine Kd.C_drewN ?_ _) | (with_reducible refine Kd.C_drew ?_)));(case side2 => exact (Kd.R_reads' HO236.out).2.1);rintro e w42 ⟨v240,rfl,ho0,hb⟩;refine ⟨_,rfl,?_⟩;have n0_ := Aside0.mk (Kd.R_below (by (with_reducible repeat (first | apply Kd.R_alloc | apply Kd.R_drewN | apply Kd.R_drew));exact HO236.out) hb);have n1_ := Aside0.mk (Kd.R_lower ho0 (below_size (by repeat (first | (with_reducible first | exact HB.out | apply below_alloc | apply pw_below_drewN | apply below_drew1 | refine below_set ?_ (IsS47.ge HI230.out)) | exact HB.out))));have n2_ := Aside0.mk (IsS47.below (by repeat (first | (with_reducible first | exact HI230.out | apply IsS47.alloc | apply IsS47.drewN | apply IsS47.drew | apply IsS47.set_1 | apply IsS47.set_2) | exact HI230.out)) hb);have n3_ := Aside0.mk (below_step (by repeat (first | (with_reducible first | exact HB.out | apply below_alloc | apply pw_below_drewN | apply below_drew1 | refine below_set ?_ (IsS47.ge HI230.out)) | exact HB.out)) hb);clear HO236;clear HI230;clear HB;have HO236 := n0_;have HO241 := n1_;have HI230 := n2_;have HB := n3_;clear n0_ n1_ n2_ n3_;(try clear hb);(try clear hb2);(try clear hk);(try clear hi);(try clear ho0)) | ((with_reducible refine gate_callee (f := 15) rfl ?_);refine goesL_ (some 11) rfl rfl Try.func15 (by kernel_rfl) rfl #[.pointer (some ⟨g230,0,none⟩),.int .i64 5] rfl (by (try simp only [List.map_toArray,List.map_cons,List.map_nil]);first | done | rfl | (simp only [List.length_drop,List.length_take];rfl)) ?_;(with_reducible refine (spec_l1Below.calls g230 t227 t237 t238 5 t242 t243 t244 w _ ?side1 ?side2 A5.out).mono ?_);(case side1 => repeat (first | (with_reducible first | exact HI230.out | apply IsS47.alloc | apply IsS47.drewN | apply IsS47.drew | apply IsS47.set_1 | apply IsS47.set_2) | exact HI230.out));(case side2 => repeat (first | (with_reducible first | exact HB.out | apply below_alloc | apply pw_below_drewN | apply below_drew1 | refine below_set ?_ (IsS47.ge HI230.out)) | exact HB.out));rintro e w43 ⟨rfl,hi,hb,hk⟩;refine ⟨_,rfl,?_⟩;have n0_ := Aside0.mk (Kd.R_mono (Kd.R_keep (IsS47.apart (show IsS47 w _ g230 t227 t237 t238 from by repeat (first | (with_reducible first | exact HI230.out | apply IsS47.alloc | apply IsS47.drewN | apply IsS47.drew | apply IsS47.set_1 | apply IsS47.set_2) | exact HI230.out)) (by (with_reducible repeat (first | apply Kd.R_alloc | apply Kd.R_drewN | apply Kd.R_drew));exact HO236.out) (by decide)) hk (fun _ h => h.2)) (fun _ h => h.1));have n1_ := Aside0.mk (Kd.R_mono (Kd.R_keep (IsS47.apart (show IsS47 w _ g230 t227 t237 t238 from by repeat (first | (with_reducible first | exact HI230.out | apply IsS47.alloc | apply IsS47.drewN | apply IsS47.drew | apply IsS47.set_1 | apply IsS47.set_2) | exact HI230.out)) (by (with_reducible repeat (first | apply Kd.R_alloc | apply Kd.R_drewN | apply Kd.R_drew));exact HO241.out) (by decide)) hk (fun _ h => h.2)) (fun _ h => h.1));have n2_ := Aside0.mk (hb);have n3_ := Aside0.mk (hi);clear HO236;clear HO241;clear HB;clear HI230;have HO236 := n0_;have HO241 := n1_;have HB := n2_;have HI230 := n3_;clear n0_ n1_ n2_ n3_;(try clear hb);(try clear hb2);(try clear hk);(try clear hi)) | ((with_reducible refine gate_builtin (b := .append) (xs := #[.tmp 34,.tmp 35]) rfl ?_);at_builtin;refine Kd.R_append (Kd.int .u8) (w0 := w) w.heap.size rfl (.tmp 34) (.tmp 35) 22 5 (.int .u8 0) 1 rfl Try.underlying22 info5 rfl (by decide) (by omega) v240 t239 0 [.int .u8 0] (fun _ => True) (fun _ => False) rfl rfl ?aP (fun _ hk => hk.elim) ?aF ?aO ?aB ?aS ?aL ?_;(case aP => exact rfl);(case aB => exact (by repeat (first | (with_reducible first | exact HB.out | apply below_alloc | apply pw_below_drewN | apply below_drew1 | refine below_set ?_ (IsS47.ge HI230.out)) | exact HB.out)));(case aF => exact (fun _ _ => trivial));(case aO => exact (by (with_reducible repeat (first | apply Kd.R_alloc | apply Kd.R_drewN | apply Kd.R_drew));exact HO241.out));(case aS => exact (below_size (by repeat (first | (with_reducible first | exact HB.out | apply below_alloc | apply pw_below_drewN | apply below_drew1 | refine below_set ?_ (IsS47.ge HI230.out)) | exact HB.out))));(case aL => have := LMc38.out;omega);intro v262 w44 ho hb hg hat;rw [← Ny261.out] at ho;have n0_ := Aside0.mk (IsS47.grown (by repeat (first | (with_reducible first | exact HI230.out | apply IsS47.alloc | apply IsS47.drewN | apply IsS47.drew | apply IsS47.set_1 | apply IsS47.set_2) | exact HI230.out)) hg (IsS47.own_ne HI230.out HO241.out (by decide)));have n1_ := Aside0.mk (Kd.R_over' (by (with_reducible repeat (first | apply Kd.R_alloc | apply Kd.R_drewN | apply Kd.R_drew));exact HO236.out) (Kd.R_typed (by (with_reducible repeat (first | apply Kd.R_alloc | apply Kd.R_drewN | apply Kd.R_drew));exact HO241.out)) (by decide) hg);have n2_ := Aside0.mk (hb);have n3_ := Aside0.mk (ho);clear HI230;clear HO236;clear HB;clear HO241;have HI230 := n0_;have HO236 := n1_;have HB := n2_;have HO263 := n3_;clear n0_ n1_ n2_ n3_;clear ho hb hg hat))
     go_ret
     exact ⟨_,by first | rfl | (simp [*,errW_none,errW_some] <;> rfl),by (with_reducible repeat (first | apply Kd.R_alloc | apply Kd.R_drewN | apply Kd.R_drew));exact HO263.out,by repeat (first | (with_reducible first | exact HB.out | apply below_alloc | apply pw_below_drewN | apply below_drew1 | refine below_set ?_ (IsS47.ge HI230.out)) | exact HB.out)⟩
    ·rw [if_neg c38] at H
     exact absurd H (by simp)
   ·rw [if_neg c37] at H
    have c37b0 : (t242 == 2) = false := beq_eq_false_iff_ne.mpr c37
    have c37b1 : (t242 != 2) = true := bne_iff_ne.mpr c37
    obtain rfl := Option.some.inj H
    go_enter Try.func5,Try.ntmps5
    go_wp2_with (first | ((with_reducible refine gate_callee (f := 12) rfl ?_);refine goesL_ (some 6) rfl rfl Try.func12 (by kernel_rfl) rfl #[.slice A0 l0.length c0] rfl (by (try simp only [List.map_toArray,List.map_cons,List.map_nil]);first | done | rfl | (simp only [List.length_drop,List.length_take];rfl)) ?_;(with_reducible refine (spec_l1New.calls k _ _ l0 t227 t228 t229 w _ ?side1 ?side2 ?side3 A2.out).mono ?_);(case side1 => repeat (first | (with_reducible first | exact HB.out | apply below_alloc | apply pw_below_drewN | apply below_drew1) | exact HB.out));(case side2 => exact HR0.out);(case side3 => exact HC0.out);rintro e w45 ⟨g230,rfl,hi,hb,hb2⟩;refine ⟨_,rfl,?_⟩;have n0_ := Aside0.mk (hb);have n1_ := Aside0.mk (hi);clear HB;have HB := n0_;have HI230 := n1_;clear n0_ n1_;(try clear hb);(try clear hb2);(try clear hk);(try clear hi)) | ((with_reducible refine gate_callee (f := 14) rfl ?_);refine goesL_ (some 8) rfl rfl Try.func14 (by kernel_rfl) rfl #[.pointer (some ⟨g230,0,none⟩),.int .i64 3] rfl (by (try simp only [List.map_toArray,List.map_cons,List.map_nil]);first | done | rfl | (simp only [List.length_drop,List.length_take];rfl)) ?_;(with_reducible refine (spec_l2Draw.calls k g230 t227 t228 t229 3 t231 t232 t233 t234 t237 t238 w _ ?side1 ?side2 A3.out).mono ?_);(case side1 => repeat (first | (with_reducible first | exact HI230.out | apply IsS47.alloc | apply IsS47.drewN | apply IsS47.drew | apply IsS47.set_1 | apply IsS47.set_2) | exact HI230.out));(case side2 => repeat (first | (with_reducible first | exact HB.out | apply below_alloc | apply pw_below_drewN | apply below_drew1 | refine below_set ?_ (IsS47.ge HI230.out)) | exact HB.out));rintro e w46 ⟨v235,rfl,ho0,hi,hb,hk⟩;refine ⟨_,rfl,?_⟩;have n0_ := Aside0.mk (Kd.R_lower ho0 (below_size (by repeat (first | (with_reducible first | exact HB.out | apply below_alloc | apply pw_below_drewN | apply below_drew1 | refine below_set ?_ (IsS47.ge HI230.out)) | exact HB.out))));have n1_ := Aside0.mk (hb);have n2_ := Aside0.mk (hi);clear HB;clear HI230;have HO236 := n0_;have HB := n1_;have HI230 := n2_;clear n0_ n1_ n2_;(try clear hb);(try clear hb2);(try clear hk);(try clear hi);(try clear ho0);obtain ⟨Ao47,co47,eo47⟩ := Kd.R_slice HO236.out;subst eo47) | ((with_reducible refine gate_callee (f := 13) rfl ?_);refine goesL_ (some 9) rfl rfl Try.func13 (by kernel_rfl) rfl #[.agg #[.int .i64 t231,.int .i64 t232,.string t233,.slice Ao47 t234.length co47]] rfl (by (try simp only [List.map_toArray,List.map_cons,List.map_nil]);first | done | rfl | (simp only [List.length_drop,List.length_take];rfl)) ?_;(with_reducible refine (spec_PutTerm.calls k t231 t232 t233 _ _ t234 t239 _ ?side1 ?side2 A4.out).mono ?_);(case side1 => repeat (first | exact (Kd.R_reads' HO236.out).2.2 | (with_reducible refine Kd.C_alloc ?_ _) | (with_reducible refine Kd.C_drewN ?_ _) | (with_reducible refine Kd.C_drew ?_)));(case side2 => exact (Kd.R_reads' HO236.out).2.1);rintro e w48 ⟨v240,rfl,ho0,hb⟩;refine ⟨_,rfl,?_⟩;have n0_ := Aside0.mk (Kd.R_below (by (with_reducible repeat (first | apply Kd.R_alloc | apply Kd.R_drewN | apply Kd.R_drew));exact HO236.out) hb);have n1_ := Aside0.mk (Kd.R_lower ho0 (below_size (by repeat (first | (with_reducible first | exact HB.out | apply below_alloc | apply pw_below_drewN | apply below_drew1 | refine below_set ?_ (IsS47.ge HI230.out)) | exact HB.out))));have n2_ := Aside0.mk (IsS47.below (by repeat (first | (with_reducible first | exact HI230.out | apply IsS47.alloc | apply IsS47.drewN | apply IsS47.drew | apply IsS47.set_1 | apply IsS47.set_2) | exact HI230.out)) hb);have n3_ := Aside0.mk (below_step (by repeat (first | (with_reducible first | exact HB.out | apply below_alloc | apply pw_below_drewN | apply below_drew1 | refine below_set ?_ (IsS47.ge HI230.out)) | exact HB.out)) hb);clear HO236;clear HI230;clear HB;have HO236 := n0_;have HO241 := n1_;have HI230 := n2_;have HB := n3_;clear n0_ n1_ n2_ n3_;(try clear hb);(try clear hb2);(try clear hk);(try clear hi);(try clear ho0)) | ((with_reducible refine gate_callee (f := 15) rfl ?_);refine goesL_ (some 11) rfl rfl Try.func15 (by kernel_rfl) rfl #[.pointer (some ⟨g230,0,none⟩),.int .i64 5] rfl (by (try simp only [List.map_toArray,List.map_cons,List.map_nil]);first | done | rfl | (simp only [List.length_drop,List.length_take];rfl)) ?_;(with_reducible refine (spec_l1Below.calls g230 t227 t237 t238 5 t242 t243 t244 w _ ?side1 ?side2 A5.out).mono ?_);(case side1 => repeat (first | (with_reducible first | exact HI230.out | apply IsS47.alloc | apply IsS47.drewN | apply IsS47.drew | apply IsS47.set_1 | apply IsS47.set_2) | exact HI230.out));(case side2 => repeat (first | (with_reducible first | exact HB.out | apply below_alloc | apply pw_below_drewN | apply below_drew1 | refine below_set ?_ (IsS47.ge HI230.out)) | exact HB.out));rintro e w49 ⟨rfl,hi,hb,hk⟩;refine ⟨_,rfl,?_⟩;have n0_ := Aside0.mk (Kd.R_mono (Kd.R_keep (IsS47.apart (show IsS47 w _ g230 t227 t237 t238 from by repeat (first | (with_reducible first | exact HI230.out | apply IsS47.alloc | apply IsS47.drewN | apply IsS47.drew | apply IsS47.set_1 | apply IsS47.set_2) | exact HI230.out)) (by (with_reducible repeat (first | apply Kd.R_alloc | apply Kd.R_drewN | apply Kd.R_drew));exact HO236.out) (by decide)) hk (fun _ h => h.2)) (fun _ h => h.1));have n1_ := Aside0.mk (Kd.R_mono (Kd.R_keep (IsS47.apart (show IsS47 w _ g230 t227 t237 t238 from by repeat (first | (with_reducible first | exact HI230.out | apply IsS47.alloc | apply IsS47.drewN | apply IsS47.drew | apply IsS47.set_1 | apply IsS47.set_2) | exact HI230.out)) (by (with_reducible repeat (first | apply Kd.R_alloc | apply Kd.R_drewN | apply Kd.R_drew));exact HO241.out) (by decide)) hk (fun _ h => h.2)) (fun _ h => h.1));have n2_ := Aside0.mk (hb);have n3_ := Aside0.mk (hi);clear HO236;clear HO241;clear HB;clear HI230;have HO236 := n0_;have HO241 := n1_;have HB := n2_;have HI230 := n3_;clear n0_ n1_ n2_ n3_;(try clear hb);(try clear hb2);(try clear hk);(try clear hi)))
    go_ret
    exact ⟨_,by first | rfl | (simp [*,errW_none,errW_some] <;> rfl),by (with_reducible repeat (first | apply Kd.R_alloc | apply Kd.R_drewN | apply Kd.R_drew));exact HO241.out,by repeat (first | (with_reducible first | exact HB.out | apply below_alloc | apply pw_below_drewN | apply below_drew1 | refine below_set ?_ (IsS47.ge HI230.out)) | exact HB.out)⟩

/-! ### impl_inRange: function 40 -/
def impl_inRange.f (a0 : Int) (a1 : Int) (a2 : Int) : Option (Bool) := if a0 ≥ a1 then (some (decide (a0 ≤ a2))) else (some false)
set_option maxHeartbeats 8000000 in
set_option maxRecDepth 100000 in
theorem impl_inRange.calls (a0 : Int) (a1 : Int) (a2 : Int) (r : Bool) (w : World) (h : impl_inRange.f a0 a1 a2 = some r) :
  Calls Try.prog 40 #[.int .i64 a0,.int .i64 a1,.int .i64 a2] w fun e w' => e = .returned (.bool r) ∧ Drawn0 w w' := by
 have H : (if a0 ≥ a1 then (some (decide (a0 ≤ a2))) else (some false)) = some r := h
 clear h
 by_cases c4 : a0 ≥ a1
 ·rw [if_pos c4] at H
  have c4b0 : decide (a1 ≤ a0) = true := decide_eq_true c4
  clear c4
  obtain rfl := Option.some.inj H
  go_enter Try.func40,Try.ntmps40
  go_wp2
  go_ret
  exact ⟨by first | rfl | (simp;done) | (simp [*];done),by repeat (first | exact Drawn0.refl _ | apply Drawn0.step)⟩
 ·rw [if_neg c4] at H
  have c4b0 : decide (a1 ≤ a0) = false := decide_eq_false c4
  clear c4
  obtain rfl := Option.some.inj H
  go_enter Try.func40,Try.ntmps40
  go_wp2
  go_ret
  exact ⟨by first | rfl | (simp;done) | (simp [*];done),by repeat (first | exact Drawn0.refl _ | apply Drawn0.step)⟩

end Go.Proofs.Ytohafgndnpjfbaa.QFnReadTerms
