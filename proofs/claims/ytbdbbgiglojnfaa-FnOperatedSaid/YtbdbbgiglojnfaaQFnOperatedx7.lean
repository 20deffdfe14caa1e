-- Written by a program of this workplace (print2.py) for this claim, over the print's words.
import Derived.Test.YtbdbbgiglojnfaaQFnOperatedx0
import Derived.Test.YtbdbbgiglojnfaaQFnOperatedx4
import Derived.Test.YtbdbbgiglojnfaaQFnOperatedx6
namespace Go.Proofs.Ytbdbbgiglojnfaa.QFnOperated
open Go.RowKit Go.Proofs.YtbdbbgiglojnfaaW.PrintWords Go.Proofs.YtbdbbgiglojnfaaW.PrintLast Go.Proofs.YtbdbbgiglojnfaaW.PrintMore
attribute [local go_sem] tdiv_lit binOp_string_gtr max2_int min2_int max_two min_two max_three min_three max_four min_four   -- for this text's walks alone
set_option linter.unusedVariables false
set_option linter.unusedSimpArgs false

mutual
def slices_CompareFunc_of_impl_compareTerms.l0:Nat → List (S26) → List (S26) → List (S26) → Int → Int → Option (Int)
 | 0,_,_,_,_,_=>none
 | k + 1,x0,x1,x11,x12,x13=>if x13 < x12 then (if 0≤x13 then (if x13 < (x11.length:Int) then (if x13 ≥ (x1.length:Int) then (some 1) else (if x13 < (x1.length:Int) then ((impl_compareTerms.f k ((rd_T26 x11 x13).f0) ((rd_T26 x11 x13).f1) ((rd_T26 x11 x13).f2) ((rd_T26 x11 x13).f3) ((rd_T26 x1 x13).f0) ((rd_T26 x1 x13).f1) ((rd_T26 x1 x13).f2) ((rd_T26 x1 x13).f3)).bind fun t328=>(if t328 = 0 then (slices_CompareFunc_of_impl_compareTerms.l0 k x0 x1 x11 x12 (wrap64 (x13 + 1))) else (some t328))) else (none))) else (none)) else (none)) else (if (x0.length:Int) < (x1.length:Int) then (some (-1)) else (some 0))
def slices_CompareFunc_of_impl_compareTerms.f:Nat → List (S26) → List (S26) → Option (Int)
 | 0,_,_=>none
 | k + 1,l0,l1=>slices_CompareFunc_of_impl_compareTerms.l0 k l0 l1 l0 (l0.length:Int) 0
def impl_compareTerms.j0:Nat → Int → Bool → Int → Int → ByteArray → List (S26) → Int → Int → ByteArray → List (S26) → Option (Int)
 | 0,_,_,_,_,_,_,_,_,_,_=>none
 | k + 1,x16,x17,x330000,x330001,x330002,x330003,x331000,x331001,x331002,x331003=>if x17 = true then ((cmp_Compare_int.f x330001 x331001).bind fun t332=>(some t332)) else (if x16 = 2 then ((cmp_Compare_string.f x330002 x331002).bind fun t333=>(some t333)) else (if x16 = 4 then (if (x330003.length:Int) = (x331003.length:Int) then ((slices_CompareFunc_of_impl_compareTerms.f k x330003 x331003).bind fun t334=>(some t334)) else ((cmp_Compare_int.f (x330003.length:Int) (x331003.length:Int)).bind fun t335=>(some t335))) else (if x16 = 5 then ((slices_CompareFunc_of_impl_compareTerms.f k x330003 x331003).bind fun t336=>(some t336)) else (some 0))))
def impl_compareTerms.f:Nat → Int → Int → ByteArray → List (S26) → Int → Int → ByteArray → List (S26) → Option (Int)
 | 0,_,_,_,_,_,_,_,_=>none
 | k + 1,a0_0,a0_1,a0_2,l0_3,a1_0,a1_1,a1_2,l1_3=>if a0_0 = a1_0 then (if a0_0 = 1 then (impl_compareTerms.j0 k a0_0 (a0_0 == 1) a0_0 a0_1 a0_2 l0_3 a1_0 a1_1 a1_2 l1_3) else (impl_compareTerms.j0 k a0_0 (a0_0 == 3) a0_0 a0_1 a0_2 l0_3 a1_0 a1_1 a1_2 l1_3)) else ((cmp_Compare_int.f a0_0 a1_0).bind fun t331=>(some t331))
end
theorem slices_CompareFunc_of_impl_compareTerms.mono_g:∀ k,(∀ y0 y1,LeO (slices_CompareFunc_of_impl_compareTerms.f k y0 y1) (slices_CompareFunc_of_impl_compareTerms.f (k + 1) y0 y1))∧(∀ y0 y1 y2 y3 y4,LeO (slices_CompareFunc_of_impl_compareTerms.l0 k y0 y1 y2 y3 y4) (slices_CompareFunc_of_impl_compareTerms.l0 (k + 1) y0 y1 y2 y3 y4))∧(∀ y0 y1 y2 y3 y4 y5 y6 y7,LeO (impl_compareTerms.f k y0 y1 y2 y3 y4 y5 y6 y7) (impl_compareTerms.f (k + 1) y0 y1 y2 y3 y4 y5 y6 y7))∧(∀ y0 y1 y2 y3 y4 y5 y6 y7 y8 y9,LeO (impl_compareTerms.j0 k y0 y1 y2 y3 y4 y5 y6 y7 y8 y9) (impl_compareTerms.j0 (k + 1) y0 y1 y2 y3 y4 y5 y6 y7 y8 y9))
 | 0=>⟨fun _ _ r h=>by simp [slices_CompareFunc_of_impl_compareTerms.f] at h,fun _ _ _ _ _ r h=>by simp [slices_CompareFunc_of_impl_compareTerms.l0] at h,fun _ _ _ _ _ _ _ _ r h=>by simp [impl_compareTerms.f] at h,fun _ _ _ _ _ _ _ _ _ _ r h=>by simp [impl_compareTerms.j0] at h⟩
 | k + 1=>by
  obtain ⟨ih0,ih1,ih2,ih3⟩:=slices_CompareFunc_of_impl_compareTerms.mono_g k
  refine ⟨?_,?_,?_,?_⟩
  ·intro y0 y1
   unfold slices_CompareFunc_of_impl_compareTerms.f
   with_reducible repeat' first|apply ih0|apply ih1|apply ih2|apply ih3|apply LeO.refl|apply LeO.none|apply LeO.ite|refine LeO.bind ?_ (fun _=>?_)
  ·intro y0 y1 y2 y3 y4
   unfold slices_CompareFunc_of_impl_compareTerms.l0
   with_reducible repeat' first|apply ih0|apply ih1|apply ih2|apply ih3|apply LeO.refl|apply LeO.none|apply LeO.ite|refine LeO.bind ?_ (fun _=>?_)
  ·intro y0 y1 y2 y3 y4 y5 y6 y7
   unfold impl_compareTerms.f
   with_reducible repeat' first|apply ih0|apply ih1|apply ih2|apply ih3|apply LeO.refl|apply LeO.none|apply LeO.ite|refine LeO.bind ?_ (fun _=>?_)
  ·intro y0 y1 y2 y3 y4 y5 y6 y7 y8 y9
   unfold impl_compareTerms.j0
   with_reducible repeat' first|apply ih0|apply ih1|apply ih2|apply ih3|apply LeO.refl|apply LeO.none|apply LeO.ite|refine LeO.bind ?_ (fun _=>?_)
theorem slices_CompareFunc_of_impl_compareTerms.mono:∀ a0 a1 k,LeO (slices_CompareFunc_of_impl_compareTerms.f k a0 a1) (slices_CompareFunc_of_impl_compareTerms.f (k + 1) a0 a1):=by
 intro a0 a1 k;obtain ⟨ih0,ih1,ih2,ih3⟩:=slices_CompareFunc_of_impl_compareTerms.mono_g k
 exact ih0 a0 a1
theorem impl_compareTerms.mono:∀ a0 a1 a2 a3 a4 a5 a6 a7 k,LeO (impl_compareTerms.f k a0 a1 a2 a3 a4 a5 a6 a7) (impl_compareTerms.f (k + 1) a0 a1 a2 a3 a4 a5 a6 a7):=by
 intro a0 a1 a2 a3 a4 a5 a6 a7 k;obtain ⟨ih0,ih1,ih2,ih3⟩:=slices_CompareFunc_of_impl_compareTerms.mono_g k
 exact ih2 a0 a1 a2 a3 a4 a5 a6 a7
/-! ### slices_CompareFunc_of_impl_compareTerms: function 45 -/
set_option maxHeartbeats 8000000 in
set_option maxRecDepth 100000 in
theorem slices_CompareFunc_of_impl_compareTerms.step (k:Nat) (ih_slices_CompareFunc_of_impl_compareTerms:∀ k_,k_ < k → ∀ (A0:Option Addr) (c0:Nat) (l0:List (S26)) (A1:Option Addr) (c1:Nat) (l1:List (S26))  (r:Int) (w:World) (hr0:Kd.C k26 w A0 l0.length l0) (hc0:l0.length≤c0) (hr1:Kd.C k26 w A1 l1.length l1) (hc1:l1.length≤c1) (h:slices_CompareFunc_of_impl_compareTerms.f k_ l0 l1 = some r),Calls Try.prog 45 #[.slice A0 l0.length c0,.slice A1 l1.length c1,.func (.func 38) #[] #[]] w fun e w'=>e = .returned (.int .i64 r)∧Below w.heap.size w w') (ih_impl_compareTerms:∀ k_,k_ < k → ∀ (a0_0:Int) (a0_1:Int) (a0_2:ByteArray) (A0_3:Option Addr) (c0_3:Nat) (l0_3:List (S26)) (a1_0:Int) (a1_1:Int) (a1_2:ByteArray) (A1_3:Option Addr) (c1_3:Nat) (l1_3:List (S26)) (r:Int) (w:World) (hr0_3:Kd.C k26 w A0_3 l0_3.length l0_3) (hc0_3:l0_3.length≤c0_3) (hr1_3:Kd.C k26 w A1_3 l1_3.length l1_3) (hc1_3:l1_3.length≤c1_3) (h:impl_compareTerms.f k_ a0_0 a0_1 a0_2 l0_3 a1_0 a1_1 a1_2 l1_3 = some r),Calls Try.prog 38 #[.agg #[.int .i64 a0_0,.int .i64 a0_1,.string a0_2,.slice A0_3 l0_3.length c0_3],.agg #[.int .i64 a1_0,.int .i64 a1_1,.string a1_2,.slice A1_3 l1_3.length c1_3]] w fun e w'=>e = .returned (.int .i64 r)∧Below w.heap.size w w'):∀ (A0:Option Addr) (c0:Nat) (l0:List (S26)) (A1:Option Addr) (c1:Nat) (l1:List (S26))  (r:Int) (w:World) (hr0:Kd.C k26 w A0 l0.length l0) (hc0:l0.length≤c0) (hr1:Kd.C k26 w A1 l1.length l1) (hc1:l1.length≤c1) (h:slices_CompareFunc_of_impl_compareTerms.f k l0 l1 = some r),
  Calls Try.prog 45 #[.slice A0 l0.length c0,.slice A1 l1.length c1,.func (.func 38) #[] #[]] w fun e w'=>e = .returned (.int .i64 r)∧Below w.heap.size w w':=by
 intro A0 c0 l0 A1 c1 l1 r w hr0 hc0 hr1 hc1 h
 cases k with
 | zero=>exact absurd h (by simp [slices_CompareFunc_of_impl_compareTerms.f])
 | succ k =>
 simp only [slices_CompareFunc_of_impl_compareTerms.f] at h;have hu26:=Try.underlying26;have HR0:=Aside0.mk hr0;have HC0:=Aside0.mk hc0;clear hr0 hc0;have HR1:=Aside0.mk hr1;have HC1:=Aside0.mk hc1;clear hr1 hc1;have HB:=Aside0.mk (Below.refl w.heap.size w);have H:(slices_CompareFunc_of_impl_compareTerms.l0 k l0 l1 l0 (l0.length:Int) 0) = some r:=h;clear h;have H':=Aside0.mk H;clear H
 go_enter Try.func45,Try.ntmps45
 go_wp2
 go_loopg [13] k (fun kq v13 w'=>∃ (x13_1:Int),v13 = .int .i64 x13_1∧Aside0 (slices_CompareFunc_of_impl_compareTerms.l0 kq l0 l1 l0 (l0.length:Int) x13_1 = some r)∧Aside0 (kq≤k)∧Aside0 (Below w.heap.size w w'))
 case atStart=>exact ⟨(0),(cl2),H',⟨Nat.le_refl _⟩,⟨bl HB.out⟩⟩
 case round =>
  clear H';(try clear c1);(try clear HB);obtain ⟨x13_1,rfl,HA,HK1,HB⟩:=hrel
  cases gk with
  | zero=>exact absurd HA.out (by simp [slices_CompareFunc_of_impl_compareTerms.l0])
  | succ k1 =>
   have H:=HA.out;clear HA;simp only [slices_CompareFunc_of_impl_compareTerms.l0] at H
   by_cases c4:x13_1 < (l0.length:Int)
   ·rw [if_pos c4] at H
    have c4b0:decide (x13_1 < (l0.length:Int)) = true:=decide_eq_true c4;clear c4
    by_cases c5:0≤x13_1
    ·rw [if_pos c5] at H
     have c5b0:decide (0≤x13_1) = true:=decide_eq_true c5;clear c5
     by_cases c6:x13_1 < (l0.length:Int)
     ·rw [if_pos c6] at H
      have c6b0:decide (x13_1 < (l0.length:Int)) = true:=decide_eq_true c6;clear c6
      by_cases c7:x13_1 ≥ (l1.length:Int)
      ·rw [if_pos c7] at H
       have c7b0:decide ((l1.length:Int)≤x13_1) = true:=decide_eq_true c7;clear c7;obtain rfl:=Option.some.inj H;have p324:0≤(x13_1:Int):=od;have q324:x13_1 < (l0.length:Int):=od;obtain ⟨ad324,A324_3,c324_3,e324,hx324_0,hx324_1,hx324_2,hx324_3,hl324_3,hi324_3⟩:=at_T26 HR0.out x13_1 p324 q324;cases e324;replace hx324_0:=cb HB hx324_0;replace hx324_1:=cb HB hx324_1;replace hx324_2:=cb HB hx324_2;replace hx324_3:=cb HB hx324_3;have HR324_3:=Aside0.mk hi324_3;have HC324_3:=Aside0.mk hl324_3;clear hi324_3 hl324_3;replace p324:=eq_true p324;replace q324:=eq_true q324
       go_wp2_with (first|((with_reducible refine gate_dst (N:=8) rfl ?_);refine box_event ?hg (N:=8) ?hd (cs:=#[.int .i64 0,.int .i64 0,.string (⟨#[]⟩:ByteArray),.slice none 0 0]) (t:=26) ?hr ?_;(case hd=>rfl);(case hg=>rfl);(case hr=>first|(go_simp;done)|(go_simp;rfl));intro gb325 hg w8 hbox hb;have n_:=ai (bq HB hb) <| ai (Aside0.mk (hbox)) <| ai (bz hg HB) <| bz hg HB;clear HB;obtain ⟨HB,BK325,GW325,GE325⟩:=n_;clear hb hbox hg;obtain ⟨h9_0,h9_1,h9_2,h9_3⟩:=kb4 BK325.out;obtain ⟨z9_0,z9_1,z9_2,z9_3⟩:=kz4 BK325.out))
       go_ret
       exact ⟨cl,bl HB.out⟩
      ·rw [if_neg c7] at H
       have c7b0:decide ((l1.length:Int)≤x13_1) = false:=decide_eq_false c7;clear c7
       by_cases c10:x13_1 < (l1.length:Int)
       ·rw [if_pos c10] at H
        have c10b0:decide (x13_1 < (l1.length:Int)) = true:=decide_eq_true c10;clear c10;replace H:=Option.bind_eq_some_iff.mp H;obtain ⟨t328,A110,H⟩:=H;replace H:(if t328 = 0 then (slices_CompareFunc_of_impl_compareTerms.l0 k1 l0 l1 l0 (l0.length:Int) (wrap64 (x13_1 + 1))) else (some t328)) = some r:=H;have A11:=Aside0.mk A110;clear A110
        by_cases c12:t328 = 0
        ·rw [if_pos c12] at H
         have c12b0:(t328 == 0) = true:=beq_iff_eq.mpr c12;have c12b1:(t328 != 0) = false:=bne_eq_false_iff_eq.mpr c12;clear c12;have H':=Aside0.mk H;clear H;have p324:0≤(x13_1:Int):=od;have q324:x13_1 < (l0.length:Int):=od;obtain ⟨ad324,A324_3,c324_3,e324,hx324_0,hx324_1,hx324_2,hx324_3,hl324_3,hi324_3⟩:=at_T26 HR0.out x13_1 p324 q324;cases e324;replace hx324_0:=cb HB hx324_0;replace hx324_1:=cb HB hx324_1;replace hx324_2:=cb HB hx324_2;replace hx324_3:=cb HB hx324_3;have HR324_3:=Aside0.mk hi324_3;have HC324_3:=Aside0.mk hl324_3;clear hi324_3 hl324_3;replace p324:=eq_true p324;replace q324:=eq_true q324
         go_wp2_with (first|((with_reducible refine gate_dst (N:=8) rfl ?_);refine box_event ?hg (N:=8) ?hd (cs:=#[.int .i64 0,.int .i64 0,.string (⟨#[]⟩:ByteArray),.slice none 0 0]) (t:=26) ?hr ?_;(case hd=>rfl);(case hg=>rfl);(case hr=>first|(go_simp;done)|(go_simp;rfl));intro gb325 hg w13 hbox hb;have n_:=ai (bq HB hb) <| ai (Aside0.mk (hbox)) <| ai (bz hg HB) <| bz hg HB;clear HB;obtain ⟨HB,BK325,GW325,GE325⟩:=n_;clear hb hbox hg;obtain ⟨h14_0,h14_1,h14_2,h14_3⟩:=kb4 BK325.out;obtain ⟨z14_0,z14_1,z14_2,z14_3⟩:=kz4 BK325.out;have p326:0≤(x13_1:Int):=od;have q326:x13_1 < (l1.length:Int):=od;obtain ⟨ad326,A326_3,c326_3,e326,hx326_0,hx326_1,hx326_2,hx326_3,hl326_3,hi326_3⟩:=at_T26 HR1.out x13_1 p326 q326;cases e326;have hn326_0:ad326.block≠gb325:=Nat.ne_of_lt (Nat.lt_of_lt_of_le (by have:=World.block_lt_of_cell? _ _ hx326_0;first|rwa [add_block] at this|exact this) GW325.out);have hn326_1:ad326.block≠gb325:=Nat.ne_of_lt (Nat.lt_of_lt_of_le (by have:=World.block_lt_of_cell? _ _ hx326_0;first|rwa [add_block] at this|exact this) GW325.out);have hn326_2:ad326.block≠gb325:=Nat.ne_of_lt (Nat.lt_of_lt_of_le (by have:=World.block_lt_of_cell? _ _ hx326_0;first|rwa [add_block] at this|exact this) GW325.out);have hn326_3:ad326.block≠gb325:=Nat.ne_of_lt (Nat.lt_of_lt_of_le (by have:=World.block_lt_of_cell? _ _ hx326_0;first|rwa [add_block] at this|exact this) GW325.out);replace hx326_0:=cb HB hx326_0;replace hx326_1:=cb HB hx326_1;replace hx326_2:=cb HB hx326_2;replace hx326_3:=cb HB hx326_3;have HR326_3:=Aside0.mk hi326_3;have HC326_3:=Aside0.mk hl326_3;clear hi326_3 hl326_3;replace hx326_0:=(cell_far (p:=⟨gb325,0,none⟩) (by first|(rw [add_block];exact hn326_0)|(show (Addr.add _ _).block≠_;rw [add_block];exact hn326_0)|exact hn326_0) (.int .i64 ((rd_T26 l0 x13_1).f0))).trans hx326_0;replace hx326_1:=(cell_far (p:=⟨gb325,0,none⟩) (by first|(rw [add_block];exact hn326_0)|(show (Addr.add _ _).block≠_;rw [add_block];exact hn326_0)|exact hn326_0) (.int .i64 ((rd_T26 l0 x13_1).f0))).trans hx326_1;replace hx326_2:=(cell_far (p:=⟨gb325,0,none⟩) (by first|(rw [add_block];exact hn326_0)|(show (Addr.add _ _).block≠_;rw [add_block];exact hn326_0)|exact hn326_0) (.int .i64 ((rd_T26 l0 x13_1).f0))).trans hx326_2;replace hx326_3:=(cell_far (p:=⟨gb325,0,none⟩) (by first|(rw [add_block];exact hn326_0)|(show (Addr.add _ _).block≠_;rw [add_block];exact hn326_0)|exact hn326_0) (.int .i64 ((rd_T26 l0 x13_1).f0))).trans hx326_3;replace hx326_0:=(cell_far (p:=⟨gb325,1,none⟩) (by first|(rw [add_block];exact hn326_1)|(show (Addr.add _ _).block≠_;rw [add_block];exact hn326_1)|exact hn326_1) (.int .i64 ((rd_T26 l0 x13_1).f1))).trans hx326_0;replace hx326_1:=(cell_far (p:=⟨gb325,1,none⟩) (by first|(rw [add_block];exact hn326_1)|(show (Addr.add _ _).block≠_;rw [add_block];exact hn326_1)|exact hn326_1) (.int .i64 ((rd_T26 l0 x13_1).f1))).trans hx326_1;replace hx326_2:=(cell_far (p:=⟨gb325,1,none⟩) (by first|(rw [add_block];exact hn326_1)|(show (Addr.add _ _).block≠_;rw [add_block];exact hn326_1)|exact hn326_1) (.int .i64 ((rd_T26 l0 x13_1).f1))).trans hx326_2;replace hx326_3:=(cell_far (p:=⟨gb325,1,none⟩) (by first|(rw [add_block];exact hn326_1)|(show (Addr.add _ _).block≠_;rw [add_block];exact hn326_1)|exact hn326_1) (.int .i64 ((rd_T26 l0 x13_1).f1))).trans hx326_3;replace hx326_0:=(cell_far (p:=⟨gb325,2,none⟩) (by first|(rw [add_block];exact hn326_2)|(show (Addr.add _ _).block≠_;rw [add_block];exact hn326_2)|exact hn326_2) (.string ((rd_T26 l0 x13_1).f2))).trans hx326_0;replace hx326_1:=(cell_far (p:=⟨gb325,2,none⟩) (by first|(rw [add_block];exact hn326_2)|(show (Addr.add _ _).block≠_;rw [add_block];exact hn326_2)|exact hn326_2) (.string ((rd_T26 l0 x13_1).f2))).trans hx326_1;replace hx326_2:=(cell_far (p:=⟨gb325,2,none⟩) (by first|(rw [add_block];exact hn326_2)|(show (Addr.add _ _).block≠_;rw [add_block];exact hn326_2)|exact hn326_2) (.string ((rd_T26 l0 x13_1).f2))).trans hx326_2;replace hx326_3:=(cell_far (p:=⟨gb325,2,none⟩) (by first|(rw [add_block];exact hn326_2)|(show (Addr.add _ _).block≠_;rw [add_block];exact hn326_2)|exact hn326_2) (.string ((rd_T26 l0 x13_1).f2))).trans hx326_3;replace hx326_0:=(cell_far (p:=⟨gb325,3,none⟩) (by first|(rw [add_block];exact hn326_3)|(show (Addr.add _ _).block≠_;rw [add_block];exact hn326_3)|exact hn326_3) (.slice A324_3 ((rd_T26 l0 x13_1).f3).length c324_3)).trans hx326_0;replace hx326_1:=(cell_far (p:=⟨gb325,3,none⟩) (by first|(rw [add_block];exact hn326_3)|(show (Addr.add _ _).block≠_;rw [add_block];exact hn326_3)|exact hn326_3) (.slice A324_3 ((rd_T26 l0 x13_1).f3).length c324_3)).trans hx326_1;replace hx326_2:=(cell_far (p:=⟨gb325,3,none⟩) (by first|(rw [add_block];exact hn326_3)|(show (Addr.add _ _).block≠_;rw [add_block];exact hn326_3)|exact hn326_3) (.slice A324_3 ((rd_T26 l0 x13_1).f3).length c324_3)).trans hx326_2;replace hx326_3:=(cell_far (p:=⟨gb325,3,none⟩) (by first|(rw [add_block];exact hn326_3)|(show (Addr.add _ _).block≠_;rw [add_block];exact hn326_3)|exact hn326_3) (.slice A324_3 ((rd_T26 l0 x13_1).f3).length c324_3)).trans hx326_3;clear hn326_0;clear hn326_1;clear hn326_2;clear hn326_3;replace p326:=eq_true p326;replace q326:=eq_true q326)|((with_reducible refine gate_dst (N:=9) rfl ?_);refine box_event ?hg (N:=9) ?hd (cs:=#[.int .i64 0,.int .i64 0,.string (⟨#[]⟩:ByteArray),.slice none 0 0]) (t:=26) ?hr ?_;(case hd=>rfl);(case hg=>rfl);(case hr=>first|(go_simp;done)|(go_simp;rfl));intro gb327 hg w15 hbox hb;have n_:=ai (Aside0.mk (blk_below (g:=gb325) (o:=.cells #[.int .i64 ((rd_T26 l0 x13_1).f0),.int .i64 ((rd_T26 l0 x13_1).f1),.string ((rd_T26 l0 x13_1).f2),.slice A324_3 ((rd_T26 l0 x13_1).f3).length c324_3] 26 (0,0)) (bmp BK325.out) hb)) <| ai (bq HB hb) <| ai (Aside0.mk (hbox)) <| ai (bz hg HB) <| ai (bz hg HB) <| ai (Aside0.mk ((by rw [hg];exact Nat.ne_of_lt (blk_lt (g:=gb325) (o:=.cells #[.int .i64 ((rd_T26 l0 x13_1).f0),.int .i64 ((rd_T26 l0 x13_1).f1),.string ((rd_T26 l0 x13_1).f2),.slice A324_3 ((rd_T26 l0 x13_1).f3).length c324_3] 26 (0,0)) (bmp BK325.out)):gb325≠gb327))) <| Aside0.mk ((by rw [hg];exact Nat.ne_of_gt (blk_lt (g:=gb325) (o:=.cells #[.int .i64 ((rd_T26 l0 x13_1).f0),.int .i64 ((rd_T26 l0 x13_1).f1),.string ((rd_T26 l0 x13_1).f2),.slice A324_3 ((rd_T26 l0 x13_1).f3).length c324_3] 26 (0,0)) (bmp BK325.out)):gb327≠gb325));clear BK325 HB;obtain ⟨BK325,HB,BK327,GW327,GE327,NB325_327,NB327_325⟩:=n_;clear hb hbox hg;have:=NB327_325.out;have:=NB325_327.out;obtain ⟨h17_0,h17_1,h17_2,h17_3⟩:=kb4 BK327.out;obtain ⟨z17_0,z17_1,z17_2,z17_3⟩:=kz4 BK327.out;obtain ⟨h18_0,h18_1,h18_2,h18_3⟩:=kb4 BK325.out;obtain ⟨z18_0,z18_1,z18_2,z18_3⟩:=kz4 BK325.out)|(go_at_call 38;(with_reducible refine (ih_impl_compareTerms k1 (by have:=HK1.out;omega) ((rd_T26 l0 x13_1).f0) ((rd_T26 l0 x13_1).f1) ((rd_T26 l0 x13_1).f2) _ _ ((rd_T26 l0 x13_1).f3) ((rd_T26 l1 x13_1).f0) ((rd_T26 l1 x13_1).f1) ((rd_T26 l1 x13_1).f2) _ _ ((rd_T26 l1 x13_1).f3) t328 _ ?side1 ?side2 ?side3 ?side4 A11.out).mono ?_);(case side1=>exact Kd.C_below HR324_3.out (bl HB.out));(case side2=>exact HC324_3.out);(case side3=>exact Kd.C_below HR326_3.out (bl HB.out));(case side4=>exact HC326_3.out);rintro e w19 ⟨rfl,hb⟩;have n_:=ai (bwm BK325 hb) <| ai (Aside0.mk (blk_below (g:=gb327) (o:=.cells #[.int .i64 ((rd_T26 l1 x13_1).f0),.int .i64 ((rd_T26 l1 x13_1).f1),.string ((rd_T26 l1 x13_1).f2),.slice A326_3 ((rd_T26 l1 x13_1).f3).length c326_3] 26 (0,0)) (bmp BK327.out) hb)) <| bq HB hb;clear BK325 BK327 HB;obtain ⟨BK325,BK327,HB⟩:=n_;(try clear hb);(try clear hi)))
         go_roundg k1
         case measure=>have:=HK1.out;omega
         case rel=>exact ⟨(wrap64 (x13_1 + 1)),(cl2),H',⟨by have:=HK1.out;omega⟩,⟨bl HB.out⟩⟩
        ·rw [if_neg c12] at H
         have c12b0:(t328 == 0) = false:=beq_eq_false_iff_ne.mpr c12;have c12b1:(t328 != 0) = true:=bne_iff_ne.mpr c12;obtain rfl:=Option.some.inj H;have p324:0≤(x13_1:Int):=od;have q324:x13_1 < (l0.length:Int):=od;obtain ⟨ad324,A324_3,c324_3,e324,hx324_0,hx324_1,hx324_2,hx324_3,hl324_3,hi324_3⟩:=at_T26 HR0.out x13_1 p324 q324;cases e324;replace hx324_0:=cb HB hx324_0;replace hx324_1:=cb HB hx324_1;replace hx324_2:=cb HB hx324_2;replace hx324_3:=cb HB hx324_3;have HR324_3:=Aside0.mk hi324_3;have HC324_3:=Aside0.mk hl324_3;clear hi324_3 hl324_3;replace p324:=eq_true p324;replace q324:=eq_true q324
         go_wp2_with (first|((with_reducible refine gate_dst (N:=8) rfl ?_);refine box_event ?hg (N:=8) ?hd (cs:=#[.int .i64 0,.int .i64 0,.string (⟨#[]⟩:ByteArray),.slice none 0 0]) (t:=26) ?hr ?_;(case hd=>rfl);(case hg=>rfl);(case hr=>first|(go_simp;done)|(go_simp;rfl));intro gb325 hg w20 hbox hb;have n_:=ai (bq HB hb) <| ai (Aside0.mk (hbox)) <| ai (bz hg HB) <| bz hg HB;clear HB;obtain ⟨HB,BK325,GW325,GE325⟩:=n_;clear hb hbox hg;obtain ⟨h21_0,h21_1,h21_2,h21_3⟩:=kb4 BK325.out;obtain ⟨z21_0,z21_1,z21_2,z21_3⟩:=kz4 BK325.out;have p326:0≤(x13_1:Int):=od;have q326:x13_1 < (l1.length:Int):=od;obtain ⟨ad326,A326_3,c326_3,e326,hx326_0,hx326_1,hx326_2,hx326_3,hl326_3,hi326_3⟩:=at_T26 HR1.out x13_1 p326 q326;cases e326;have hn326_0:ad326.block≠gb325:=Nat.ne_of_lt (Nat.lt_of_lt_of_le (by have:=World.block_lt_of_cell? _ _ hx326_0;first|rwa [add_block] at this|exact this) GW325.out);have hn326_1:ad326.block≠gb325:=Nat.ne_of_lt (Nat.lt_of_lt_of_le (by have:=World.block_lt_of_cell? _ _ hx326_0;first|rwa [add_block] at this|exact this) GW325.out);have hn326_2:ad326.block≠gb325:=Nat.ne_of_lt (Nat.lt_of_lt_of_le (by have:=World.block_lt_of_cell? _ _ hx326_0;first|rwa [add_block] at this|exact this) GW325.out);have hn326_3:ad326.block≠gb325:=Nat.ne_of_lt (Nat.lt_of_lt_of_le (by have:=World.block_lt_of_cell? _ _ hx326_0;first|rwa [add_block] at this|exact this) GW325.out);replace hx326_0:=cb HB hx326_0;replace hx326_1:=cb HB hx326_1;replace hx326_2:=cb HB hx326_2;replace hx326_3:=cb HB hx326_3;have HR326_3:=Aside0.mk hi326_3;have HC326_3:=Aside0.mk hl326_3;clear hi326_3 hl326_3;replace hx326_0:=(cell_far (p:=⟨gb325,0,none⟩) (by first|(rw [add_block];exact hn326_0)|(show (Addr.add _ _).block≠_;rw [add_block];exact hn326_0)|exact hn326_0) (.int .i64 ((rd_T26 l0 x13_1).f0))).trans hx326_0;replace hx326_1:=(cell_far (p:=⟨gb325,0,none⟩) (by first|(rw [add_block];exact hn326_0)|(show (Addr.add _ _).block≠_;rw [add_block];exact hn326_0)|exact hn326_0) (.int .i64 ((rd_T26 l0 x13_1).f0))).trans hx326_1;replace hx326_2:=(cell_far (p:=⟨gb325,0,none⟩) (by first|(rw [add_block];exact hn326_0)|(show (Addr.add _ _).block≠_;rw [add_block];exact hn326_0)|exact hn326_0) (.int .i64 ((rd_T26 l0 x13_1).f0))).trans hx326_2;replace hx326_3:=(cell_far (p:=⟨gb325,0,none⟩) (by first|(rw [add_block];exact hn326_0)|(show (Addr.add _ _).block≠_;rw [add_block];exact hn326_0)|exact hn326_0) (.int .i64 ((rd_T26 l0 x13_1).f0))).trans hx326_3;replace hx326_0:=(cell_far (p:=⟨gb325,1,none⟩) (by first|(rw [add_block];exact hn326_1)|(show (Addr.add _ _).block≠_;rw [add_block];exact hn326_1)|exact hn326_1) (.int .i64 ((rd_T26 l0 x13_1).f1))).trans hx326_0;replace hx326_1:=(cell_far (p:=⟨gb325,1,none⟩) (by first|(rw [add_block];exact hn326_1)|(show (Addr.add _ _).block≠_;rw [add_block];exact hn326_1)|exact hn326_1) (.int .i64 ((rd_T26 l0 x13_1).f1))).trans hx326_1;replace hx326_2:=(cell_far (p:=⟨gb325,1,none⟩) (by first|(rw [add_block];exact hn326_1)|(show (Addr.add _ _).block≠_;rw [add_block];exact hn326_1)|exact hn326_1) (.int .i64 ((rd_T26 l0 x13_1).f1))).trans hx326_2;replace hx326_3:=(cell_far (p:=⟨gb325,1,none⟩) (by first|(rw [add_block];exact hn326_1)|(show (Addr.add _ _).block≠_;rw [add_block];exact hn326_1)|exact hn326_1) (.int .i64 ((rd_T26 l0 x13_1).f1))).trans hx326_3;replace hx326_0:=(cell_far (p:=⟨gb325,2,none⟩) (by first|(rw [add_block];exact hn326_2)|(show (Addr.add _ _).block≠_;rw [add_block];exact hn326_2)|exact hn326_2) (.string ((rd_T26 l0 x13_1).f2))).trans hx326_0;replace hx326_1:=(cell_far (p:=⟨gb325,2,none⟩) (by first|(rw [add_block];exact hn326_2)|(show (Addr.add _ _).block≠_;rw [add_block];exact hn326_2)|exact hn326_2) (.string ((rd_T26 l0 x13_1).f2))).trans hx326_1;replace hx326_2:=(cell_far (p:=⟨gb325,2,none⟩) (by first|(rw [add_block];exact hn326_2)|(show (Addr.add _ _).block≠_;rw [add_block];exact hn326_2)|exact hn326_2) (.string ((rd_T26 l0 x13_1).f2))).trans hx326_2;replace hx326_3:=(cell_far (p:=⟨gb325,2,none⟩) (by first|(rw [add_block];exact hn326_2)|(show (Addr.add _ _).block≠_;rw [add_block];exact hn326_2)|exact hn326_2) (.string ((rd_T26 l0 x13_1).f2))).trans hx326_3;replace hx326_0:=(cell_far (p:=⟨gb325,3,none⟩) (by first|(rw [add_block];exact hn326_3)|(show (Addr.add _ _).block≠_;rw [add_block];exact hn326_3)|exact hn326_3) (.slice A324_3 ((rd_T26 l0 x13_1).f3).length c324_3)).trans hx326_0;replace hx326_1:=(cell_far (p:=⟨gb325,3,none⟩) (by first|(rw [add_block];exact hn326_3)|(show (Addr.add _ _).block≠_;rw [add_block];exact hn326_3)|exact hn326_3) (.slice A324_3 ((rd_T26 l0 x13_1).f3).length c324_3)).trans hx326_1;replace hx326_2:=(cell_far (p:=⟨gb325,3,none⟩) (by first|(rw [add_block];exact hn326_3)|(show (Addr.add _ _).block≠_;rw [add_block];exact hn326_3)|exact hn326_3) (.slice A324_3 ((rd_T26 l0 x13_1).f3).length c324_3)).trans hx326_2;replace hx326_3:=(cell_far (p:=⟨gb325,3,none⟩) (by first|(rw [add_block];exact hn326_3)|(show (Addr.add _ _).block≠_;rw [add_block];exact hn326_3)|exact hn326_3) (.slice A324_3 ((rd_T26 l0 x13_1).f3).length c324_3)).trans hx326_3;clear hn326_0;clear hn326_1;clear hn326_2;clear hn326_3;replace p326:=eq_true p326;replace q326:=eq_true q326)|((with_reducible refine gate_dst (N:=9) rfl ?_);refine box_event ?hg (N:=9) ?hd (cs:=#[.int .i64 0,.int .i64 0,.string (⟨#[]⟩:ByteArray),.slice none 0 0]) (t:=26) ?hr ?_;(case hd=>rfl);(case hg=>rfl);(case hr=>first|(go_simp;done)|(go_simp;rfl));intro gb327 hg w22 hbox hb;have n_:=ai (Aside0.mk (blk_below (g:=gb325) (o:=.cells #[.int .i64 ((rd_T26 l0 x13_1).f0),.int .i64 ((rd_T26 l0 x13_1).f1),.string ((rd_T26 l0 x13_1).f2),.slice A324_3 ((rd_T26 l0 x13_1).f3).length c324_3] 26 (0,0)) (bmp BK325.out) hb)) <| ai (bq HB hb) <| ai (Aside0.mk (hbox)) <| ai (bz hg HB) <| ai (bz hg HB) <| ai (Aside0.mk ((by rw [hg];exact Nat.ne_of_lt (blk_lt (g:=gb325) (o:=.cells #[.int .i64 ((rd_T26 l0 x13_1).f0),.int .i64 ((rd_T26 l0 x13_1).f1),.string ((rd_T26 l0 x13_1).f2),.slice A324_3 ((rd_T26 l0 x13_1).f3).length c324_3] 26 (0,0)) (bmp BK325.out)):gb325≠gb327))) <| Aside0.mk ((by rw [hg];exact Nat.ne_of_gt (blk_lt (g:=gb325) (o:=.cells #[.int .i64 ((rd_T26 l0 x13_1).f0),.int .i64 ((rd_T26 l0 x13_1).f1),.string ((rd_T26 l0 x13_1).f2),.slice A324_3 ((rd_T26 l0 x13_1).f3).length c324_3] 26 (0,0)) (bmp BK325.out)):gb327≠gb325));clear BK325 HB;obtain ⟨BK325,HB,BK327,GW327,GE327,NB325_327,NB327_325⟩:=n_;clear hb hbox hg;have:=NB327_325.out;have:=NB325_327.out;obtain ⟨h24_0,h24_1,h24_2,h24_3⟩:=kb4 BK327.out;obtain ⟨z24_0,z24_1,z24_2,z24_3⟩:=kz4 BK327.out;obtain ⟨h25_0,h25_1,h25_2,h25_3⟩:=kb4 BK325.out;obtain ⟨z25_0,z25_1,z25_2,z25_3⟩:=kz4 BK325.out)|(go_at_call 38;(with_reducible refine (ih_impl_compareTerms k1 (by have:=HK1.out;omega) ((rd_T26 l0 x13_1).f0) ((rd_T26 l0 x13_1).f1) ((rd_T26 l0 x13_1).f2) _ _ ((rd_T26 l0 x13_1).f3) ((rd_T26 l1 x13_1).f0) ((rd_T26 l1 x13_1).f1) ((rd_T26 l1 x13_1).f2) _ _ ((rd_T26 l1 x13_1).f3) t328 _ ?side1 ?side2 ?side3 ?side4 A11.out).mono ?_);(case side1=>exact Kd.C_below HR324_3.out (bl HB.out));(case side2=>exact HC324_3.out);(case side3=>exact Kd.C_below HR326_3.out (bl HB.out));(case side4=>exact HC326_3.out);rintro e w26 ⟨rfl,hb⟩;have n_:=ai (bwm BK325 hb) <| ai (Aside0.mk (blk_below (g:=gb327) (o:=.cells #[.int .i64 ((rd_T26 l1 x13_1).f0),.int .i64 ((rd_T26 l1 x13_1).f1),.string ((rd_T26 l1 x13_1).f2),.slice A326_3 ((rd_T26 l1 x13_1).f3).length c326_3] 26 (0,0)) (bmp BK327.out) hb)) <| bq HB hb;clear BK325 BK327 HB;obtain ⟨BK325,BK327,HB⟩:=n_;(try clear hb);(try clear hi)))
         go_ret
         exact ⟨cl,bl HB.out⟩
       ·rw [if_neg c10] at H
        exact absurd H (by simp)
     ·rw [if_neg c6] at H
      exact absurd H (by simp)
    ·rw [if_neg c5] at H
     exact absurd H (by simp)
   ·rw [if_neg c4] at H
    have c4b0:decide (x13_1 < (l0.length:Int)) = false:=decide_eq_false c4;clear c4
    by_cases c27:(l0.length:Int) < (l1.length:Int)
    ·rw [if_pos c27] at H
     have c27b0:decide ((l0.length:Int) < (l1.length:Int)) = true:=decide_eq_true c27;have c27b1:decide (l0.length < l1.length) = true:=decide_eq_true (Int.ofNat_lt.mp c27);clear c27;obtain rfl:=Option.some.inj H
     go_wp2
     go_ret
     exact ⟨cl,bl HB.out⟩
    ·rw [if_neg c27] at H
     have c27b0:decide ((l0.length:Int) < (l1.length:Int)) = false:=decide_eq_false c27;have c27b1:decide (l0.length < l1.length) = false:=decide_eq_false (fun h=>c27 (Int.ofNat_lt.mpr h));clear c27;obtain rfl:=Option.some.inj H
     go_wp2
     go_ret
     exact ⟨cl,bl HB.out⟩

/-! ### impl_compareTerms: function 38 -/
set_option maxHeartbeats 8000000 in
set_option maxRecDepth 100000 in
theorem impl_compareTerms.step (k:Nat) (ih_slices_CompareFunc_of_impl_compareTerms:∀ k_,k_ < k → ∀ (A0:Option Addr) (c0:Nat) (l0:List (S26)) (A1:Option Addr) (c1:Nat) (l1:List (S26))  (r:Int) (w:World) (hr0:Kd.C k26 w A0 l0.length l0) (hc0:l0.length≤c0) (hr1:Kd.C k26 w A1 l1.length l1) (hc1:l1.length≤c1) (h:slices_CompareFunc_of_impl_compareTerms.f k_ l0 l1 = some r),Calls Try.prog 45 #[.slice A0 l0.length c0,.slice A1 l1.length c1,.func (.func 38) #[] #[]] w fun e w'=>e = .returned (.int .i64 r)∧Below w.heap.size w w') (ih_impl_compareTerms:∀ k_,k_ < k → ∀ (a0_0:Int) (a0_1:Int) (a0_2:ByteArray) (A0_3:Option Addr) (c0_3:Nat) (l0_3:List (S26)) (a1_0:Int) (a1_1:Int) (a1_2:ByteArray) (A1_3:Option Addr) (c1_3:Nat) (l1_3:List (S26)) (r:Int) (w:World) (hr0_3:Kd.C k26 w A0_3 l0_3.length l0_3) (hc0_3:l0_3.length≤c0_3) (hr1_3:Kd.C k26 w A1_3 l1_3.length l1_3) (hc1_3:l1_3.length≤c1_3) (h:impl_compareTerms.f k_ a0_0 a0_1 a0_2 l0_3 a1_0 a1_1 a1_2 l1_3 = some r),Calls Try.prog 38 #[.agg #[.int .i64 a0_0,.int .i64 a0_1,.string a0_2,.slice A0_3 l0_3.length c0_3],.agg #[.int .i64 a1_0,.int .i64 a1_1,.string a1_2,.slice A1_3 l1_3.length c1_3]] w fun e w'=>e = .returned (.int .i64 r)∧Below w.heap.size w w'):∀ (a0_0:Int) (a0_1:Int) (a0_2:ByteArray) (A0_3:Option Addr) (c0_3:Nat) (l0_3:List (S26)) (a1_0:Int) (a1_1:Int) (a1_2:ByteArray) (A1_3:Option Addr) (c1_3:Nat) (l1_3:List (S26)) (r:Int) (w:World) (hr0_3:Kd.C k26 w A0_3 l0_3.length l0_3) (hc0_3:l0_3.length≤c0_3) (hr1_3:Kd.C k26 w A1_3 l1_3.length l1_3) (hc1_3:l1_3.length≤c1_3) (h:impl_compareTerms.f k a0_0 a0_1 a0_2 l0_3 a1_0 a1_1 a1_2 l1_3 = some r),
  Calls Try.prog 38 #[.agg #[.int .i64 a0_0,.int .i64 a0_1,.string a0_2,.slice A0_3 l0_3.length c0_3],.agg #[.int .i64 a1_0,.int .i64 a1_1,.string a1_2,.slice A1_3 l1_3.length c1_3]] w fun e w'=>e = .returned (.int .i64 r)∧Below w.heap.size w w':=by
 intro a0_0 a0_1 a0_2 A0_3 c0_3 l0_3 a1_0 a1_1 a1_2 A1_3 c1_3 l1_3 r w hr0_3 hc0_3 hr1_3 hc1_3 h
 cases k with
 | zero=>exact absurd h (by simp [impl_compareTerms.f])
 | succ k =>
 simp only [impl_compareTerms.f] at h;have hu26:=Try.underlying26;have HR0_3:=Aside0.mk hr0_3;have HC0_3:=Aside0.mk hc0_3;clear hr0_3 hc0_3;have HR1_3:=Aside0.mk hr1_3;have HC1_3:=Aside0.mk hc1_3;clear hr1_3 hc1_3;have HB:=Aside0.mk (Below.refl w.heap.size w);have H:(if a0_0 = a1_0 then (if a0_0 = 1 then (impl_compareTerms.j0 k a0_0 (a0_0 == 1) a0_0 a0_1 a0_2 l0_3 a1_0 a1_1 a1_2 l1_3) else (impl_compareTerms.j0 k a0_0 (a0_0 == 3) a0_0 a0_1 a0_2 l0_3 a1_0 a1_1 a1_2 l1_3)) else ((cmp_Compare_int.f a0_0 a1_0).bind fun t331=>(some t331))) = some r:=h;clear h
 by_cases c3:a0_0 = a1_0
 ·rw [if_pos c3] at H
  have c3b0:(a0_0 == a1_0) = true:=beq_iff_eq.mpr c3;have c3b1:(a0_0 != a1_0) = false:=bne_eq_false_iff_eq.mpr c3;clear c3;have HC4:=Aside0.mk H;clear H
  go_enter Try.func38,Try.ntmps38
  go_upto_if 17 with (first|((with_reducible refine gate_dst (N:=2) rfl ?_);refine box_event ?hg (N:=2) ?hd (cs:=#[.int .i64 a0_0,.int .i64 a0_1,.string a0_2,.slice A0_3 l0_3.length c0_3]) (t:=26) ?hr ?_;(case hd=>rfl);(case hg=>rfl);(case hr=>first|(go_simp;done)|(go_simp;rfl));intro gb329 hg w5 hbox hb;have n_:=ai (bq HB hb) <| ai (Aside0.mk (hbox)) <| ai (bz hg HB) <| bz hg HB;clear HB;obtain ⟨HB,BK329,GW329,GE329⟩:=n_;clear hb hbox hg)|((with_reducible refine gate_dst (N:=3) rfl ?_);refine box_event ?hg (N:=3) ?hd (cs:=#[.int .i64 a1_0,.int .i64 a1_1,.string a1_2,.slice A1_3 l1_3.length c1_3]) (t:=26) ?hr ?_;(case hd=>rfl);(case hg=>rfl);(case hr=>first|(go_simp;done)|(go_simp;rfl));intro gb330 hg w6 hbox hb;have n_:=ai (bw BK329 hb) <| ai (bq HB hb) <| ai (Aside0.mk (hbox)) <| ai (bz hg HB) <| ai (bz hg HB) <| ai (nl hg BK329) <| ng hg BK329;clear BK329 HB;obtain ⟨BK329,HB,BK330,GW330,GE330,NB329_330,NB330_329⟩:=n_;clear hb hbox hg;have:=NB329_330.out;have:=NB330_329.out;obtain ⟨h8_0,h8_1,h8_2,h8_3⟩:=kb4 BK329.out;obtain ⟨z8_0,z8_1,z8_2,z8_3⟩:=kz4 BK329.out;obtain ⟨h9_0,h9_1,h9_2,h9_3⟩:=kb4 BK330.out;obtain ⟨z9_0,z9_1,z9_2,z9_3⟩:=kz4 BK330.out))
  (try simp only [Act.put,List.setIfInBounds_toArray,List.set_cons_zero,List.set_cons_succ])
  go_cut [17] (fun v17 wc=>∃ (kq:Nat) (x17_3:Bool),v17 = .bool x17_3∧Aside0 (impl_compareTerms.j0 kq a0_0 x17_3 a0_0 a0_1 a0_2 l0_3 a1_0 a1_1 a1_2 l1_3 = some r)∧Aside0 (kq≤k)∧Aside0 (wc.heap[gb329]? = some (.cells #[.int .i64 a0_0,.int .i64 a0_1,.string a0_2,(.slice A0_3 l0_3.length c0_3)] 26 (0,0)))∧Aside0 (wc.heap[gb330]? = some (.cells #[.int .i64 a1_0,.int .i64 a1_1,.string a1_2,(.slice A1_3 l1_3.length c1_3)] 26 (0,0)))∧Aside0 (Below w.heap.size w wc))
  case first =>
   have H:=HC4.out;clear HC4
   by_cases c10:a0_0 = 1
   ·rw [if_pos c10] at H
    have c10b0:(a0_0 == 1) = true:=beq_iff_eq.mpr c10;have c10b1:(a0_0 != 1) = false:=bne_eq_false_iff_eq.mpr c10;clear c10
    (first|rw [c10b0]|(simp only [i64_w,i32_w];rw [c10b0])|(simp only [c10b2,Bool.not_true,Bool.not_false])|skip)
    have H':=Aside0.mk H;clear H
    go_wp2
    go_meet
    case rel=>exact ⟨_,((a0_0 == 1)),(cl2),H',⟨by first|omega|exact Nat.le_refl _⟩,⟨bk BK329.out⟩,⟨bk BK330.out⟩,⟨bl HB.out⟩⟩
   ·rw [if_neg c10] at H
    have c10b0:(a0_0 == 1) = false:=beq_eq_false_iff_ne.mpr c10;have c10b1:(a0_0 != 1) = true:=bne_iff_ne.mpr c10
    (first|rw [c10b0]|(simp only [i64_w,i32_w];rw [c10b0])|(simp only [c10b2,Bool.not_true,Bool.not_false])|skip)
    have H':=Aside0.mk H;clear H
    go_wp2
    go_meet
    case rel=>exact ⟨_,((a0_0 == 3)),(cl2),H',⟨by first|omega|exact Nat.le_refl _⟩,⟨bk BK329.out⟩,⟨bk BK330.out⟩,⟨bl HB.out⟩⟩
  case rest =>
   clear HC4;(try clear c1);(try clear c3);(try clear c3b0);(try clear c3b1);(try clear h8_0 h8_1 h8_2 h8_3);(try clear h9_0 h9_1 h9_2 h9_3);(try clear z8_0 z8_1 z8_2 z8_3);(try clear z9_0 z9_1 z9_2 z9_3);(try clear BK329);(try clear BK330);(try clear HB);obtain ⟨kq,x17_3,rfl,HA,HJ3,BK329,BK330,HB⟩:=hcut
   cases kq with
   | zero=>exact absurd HA.out (by simp [impl_compareTerms.j0])
   | succ kj3 =>
    have H:=HA.out;clear HA;simp only [impl_compareTerms.j0] at H
    by_cases c11:x17_3 = true
    ·subst c11
     have H1:((cmp_Compare_int.f a0_1 a1_1).bind fun t332=>(some t332)) = some r:=by rw [if_pos rfl] at H;exact H
     clear H;have H:=H1;clear H1;replace H:=Option.bind_eq_some_iff.mp H;obtain ⟨t332,A120,H⟩:=H;replace H:(some t332) = some r:=H;have A12:=Aside0.mk A120;clear A120;obtain rfl:=Option.some.inj H;have:=NB329_330.out;have:=NB330_329.out;obtain ⟨h14_0,h14_1,h14_2,h14_3⟩:=kb4 BK329.out;obtain ⟨h15_0,h15_1,h15_2,h15_3⟩:=kb4 BK330.out
     go_wp2_with (first|((with_reducible refine gate_callee (f:=43) rfl ?_);refine goesL_ (some 24) rfl rfl Try.func43 (by kernel_rfl) rfl #[.int .i64 a0_1,.int .i64 a1_1] rfl gs ?_;(with_reducible refine (cmp_Compare_int.calls a0_1 a1_1 t332 _ A12.out).mono ?_);rintro e w' ⟨rfl,⟨nd,rfl⟩⟩;refine ⟨_,rfl,?_⟩))
     go_ret
     exact ⟨cl,bl HB.out⟩
    ·replace c11:=Bool.eq_false_iff.mpr c11
     subst c11;have H1:(if a0_0 = 2 then ((cmp_Compare_string.f a0_2 a1_2).bind fun t333=>(some t333)) else (if a0_0 = 4 then (if (l0_3.length:Int) = (l1_3.length:Int) then ((slices_CompareFunc_of_impl_compareTerms.f kj3 l0_3 l1_3).bind fun t334=>(some t334)) else ((cmp_Compare_int.f (l0_3.length:Int) (l1_3.length:Int)).bind fun t335=>(some t335))) else (if a0_0 = 5 then ((slices_CompareFunc_of_impl_compareTerms.f kj3 l0_3 l1_3).bind fun t336=>(some t336)) else (some 0)))) = some r:=by rw [if_neg (show ¬ (false = true) by decide)] at H;exact H
     clear H;have H:=H1;clear H1
     by_cases c16:a0_0 = 2
     ·rw [if_pos c16] at H
      have c16b0:(a0_0 == 2) = true:=beq_iff_eq.mpr c16;have c16b1:(a0_0 != 2) = false:=bne_eq_false_iff_eq.mpr c16;clear c16;replace H:=Option.bind_eq_some_iff.mp H;obtain ⟨t333,A170,H⟩:=H;replace H:(some t333) = some r:=H;have A17:=Aside0.mk A170;clear A170;obtain rfl:=Option.some.inj H;have:=NB329_330.out;have:=NB330_329.out;obtain ⟨h19_0,h19_1,h19_2,h19_3⟩:=kb4 BK329.out;obtain ⟨h20_0,h20_1,h20_2,h20_3⟩:=kb4 BK330.out
      go_wp2_with (first|((with_reducible refine gate_callee (f:=44) rfl ?_);refine goesL_ (some 31) rfl rfl Try.func44 (by kernel_rfl) rfl #[.string a0_2,.string a1_2] rfl gs ?_;(with_reducible refine (cmp_Compare_string.calls a0_2 a1_2 t333 _ A17.out).mono ?_);rintro e w' ⟨rfl,⟨nd,rfl⟩⟩;refine ⟨_,rfl,?_⟩))
      go_ret
      exact ⟨cl,bl HB.out⟩
     ·rw [if_neg c16] at H
      have c16b0:(a0_0 == 2) = false:=beq_eq_false_iff_ne.mpr c16;have c16b1:(a0_0 != 2) = true:=bne_iff_ne.mpr c16
      by_cases c21:a0_0 = 4
      ·rw [if_pos c21] at H
       have c21b0:(a0_0 == 4) = true:=beq_iff_eq.mpr c21;have c21b1:(a0_0 != 4) = false:=bne_eq_false_iff_eq.mpr c21;clear c21
       by_cases c22:(l0_3.length:Int) = (l1_3.length:Int)
       ·rw [if_pos c22] at H
        have c22b0:((l0_3.length:Int) == (l1_3.length:Int)) = true:=beq_iff_eq.mpr c22;have c22b1:((l0_3.length:Int) != (l1_3.length:Int)) = false:=bne_eq_false_iff_eq.mpr c22;have c22b2:(l0_3.length == l1_3.length) = true:=by first|simpa using c22|(simp at c22 ⊢;omega)
        clear c22;replace H:=Option.bind_eq_some_iff.mp H;obtain ⟨t334,A230,H⟩:=H;replace H:(some t334) = some r:=H;have A23:=Aside0.mk A230;clear A230;obtain rfl:=Option.some.inj H;have:=NB329_330.out;have:=NB330_329.out;obtain ⟨h25_0,h25_1,h25_2,h25_3⟩:=kb4 BK329.out;obtain ⟨h26_0,h26_1,h26_2,h26_3⟩:=kb4 BK330.out
        go_wp2_with (first|((with_reducible refine gate_callee (f:=45) rfl ?_);refine goesL_ (some 52) rfl rfl Try.func45 (by kernel_rfl) rfl #[.slice A0_3 l0_3.length c0_3,.slice A1_3 l1_3.length c1_3,.func (.func 38) #[] #[]] rfl gs ?_;(with_reducible refine (ih_slices_CompareFunc_of_impl_compareTerms kj3 (by have:=HJ3.out;omega) _ _ l0_3 _ _ l1_3  t334 _ ?side1 ?side2 ?side3 ?side4 A23.out).mono ?_);(case side1=>exact ck (Kd.C_below HR0_3.out HB.out));(case side2=>exact HC0_3.out);(case side3=>exact ck (Kd.C_below HR1_3.out HB.out));(case side4=>exact HC1_3.out);rintro e w27 ⟨rfl,hb⟩;refine ⟨_,rfl,?_⟩;have n_:=ai (bw BK329 hb) <| ai (bw BK330 hb) <| bq HB hb;clear BK329 BK330 HB;obtain ⟨BK329,BK330,HB⟩:=n_;(try clear hb);(try clear hi)))
        go_ret
        exact ⟨cl,bl HB.out⟩
       ·rw [if_neg c22] at H
        have c22b0:((l0_3.length:Int) == (l1_3.length:Int)) = false:=beq_eq_false_iff_ne.mpr c22;have c22b1:((l0_3.length:Int) != (l1_3.length:Int)) = true:=bne_iff_ne.mpr c22;have c22b2:(l0_3.length == l1_3.length) = false:=by first|simpa using c22|(simp at c22 ⊢;omega)
        replace H:=Option.bind_eq_some_iff.mp H;obtain ⟨t335,A280,H⟩:=H;replace H:(some t335) = some r:=H;have A28:=Aside0.mk A280;clear A280;obtain rfl:=Option.some.inj H;have:=NB329_330.out;have:=NB330_329.out;obtain ⟨h30_0,h30_1,h30_2,h30_3⟩:=kb4 BK329.out;obtain ⟨h31_0,h31_1,h31_2,h31_3⟩:=kb4 BK330.out
        go_wp2_with (first|((with_reducible refine gate_callee (f:=43) rfl ?_);refine goesL_ (some 47) rfl rfl Try.func43 (by kernel_rfl) rfl #[.int .i64 (l0_3.length:Int),.int .i64 (l1_3.length:Int)] rfl gs ?_;(with_reducible refine (cmp_Compare_int.calls (l0_3.length:Int) (l1_3.length:Int) t335 _ A28.out).mono ?_);rintro e w' ⟨rfl,⟨nd,rfl⟩⟩;refine ⟨_,rfl,?_⟩))
        go_ret
        exact ⟨cl,bl HB.out⟩
      ·rw [if_neg c21] at H
       have c21b0:(a0_0 == 4) = false:=beq_eq_false_iff_ne.mpr c21;have c21b1:(a0_0 != 4) = true:=bne_iff_ne.mpr c21
       by_cases c32:a0_0 = 5
       ·rw [if_pos c32] at H
        have c32b0:(a0_0 == 5) = true:=beq_iff_eq.mpr c32;have c32b1:(a0_0 != 5) = false:=bne_eq_false_iff_eq.mpr c32;clear c32;replace H:=Option.bind_eq_some_iff.mp H;obtain ⟨t336,A330,H⟩:=H;replace H:(some t336) = some r:=H;have A33:=Aside0.mk A330;clear A330;obtain rfl:=Option.some.inj H;have:=NB329_330.out;have:=NB330_329.out;obtain ⟨h35_0,h35_1,h35_2,h35_3⟩:=kb4 BK329.out;obtain ⟨h36_0,h36_1,h36_2,h36_3⟩:=kb4 BK330.out
        go_wp2_with (first|((with_reducible refine gate_callee (f:=45) rfl ?_);refine goesL_ (some 59) rfl rfl Try.func45 (by kernel_rfl) rfl #[.slice A0_3 l0_3.length c0_3,.slice A1_3 l1_3.length c1_3,.func (.func 38) #[] #[]] rfl gs ?_;(with_reducible refine (ih_slices_CompareFunc_of_impl_compareTerms kj3 (by have:=HJ3.out;omega) _ _ l0_3 _ _ l1_3  t336 _ ?side1 ?side2 ?side3 ?side4 A33.out).mono ?_);(case side1=>exact ck (Kd.C_below HR0_3.out HB.out));(case side2=>exact HC0_3.out);(case side3=>exact ck (Kd.C_below HR1_3.out HB.out));(case side4=>exact HC1_3.out);rintro e w37 ⟨rfl,hb⟩;refine ⟨_,rfl,?_⟩;have n_:=ai (bw BK329 hb) <| ai (bw BK330 hb) <| bq HB hb;clear BK329 BK330 HB;obtain ⟨BK329,BK330,HB⟩:=n_;(try clear hb);(try clear hi)))
        go_ret
        exact ⟨cl,bl HB.out⟩
       ·rw [if_neg c32] at H
        have c32b0:(a0_0 == 5) = false:=beq_eq_false_iff_ne.mpr c32;have c32b1:(a0_0 != 5) = true:=bne_iff_ne.mpr c32;obtain rfl:=Option.some.inj H
        go_wp2
        go_ret
        exact ⟨cl,bl HB.out⟩
 ·rw [if_neg c3] at H
  have c3b0:(a0_0 == a1_0) = false:=beq_eq_false_iff_ne.mpr c3;have c3b1:(a0_0 != a1_0) = true:=bne_iff_ne.mpr c3;replace H:=Option.bind_eq_some_iff.mp H;obtain ⟨t331,A380,H⟩:=H;replace H:(some t331) = some r:=H;have A38:=Aside0.mk A380;clear A380;obtain rfl:=Option.some.inj H
  go_enter Try.func38,Try.ntmps38
  go_wp2_with (first|((with_reducible refine gate_dst (N:=2) rfl ?_);refine box_event ?hg (N:=2) ?hd (cs:=#[.int .i64 a0_0,.int .i64 a0_1,.string a0_2,.slice A0_3 l0_3.length c0_3]) (t:=26) ?hr ?_;(case hd=>rfl);(case hg=>rfl);(case hr=>first|(go_simp;done)|(go_simp;rfl));intro gb329 hg w39 hbox hb;have n_:=ai (bq HB hb) <| ai (Aside0.mk (hbox)) <| ai (bz hg HB) <| bz hg HB;clear HB;obtain ⟨HB,BK329,GW329,GE329⟩:=n_;clear hb hbox hg)|((with_reducible refine gate_dst (N:=3) rfl ?_);refine box_event ?hg (N:=3) ?hd (cs:=#[.int .i64 a1_0,.int .i64 a1_1,.string a1_2,.slice A1_3 l1_3.length c1_3]) (t:=26) ?hr ?_;(case hd=>rfl);(case hg=>rfl);(case hr=>first|(go_simp;done)|(go_simp;rfl));intro gb330 hg w40 hbox hb;have n_:=ai (bw BK329 hb) <| ai (bq HB hb) <| ai (Aside0.mk (hbox)) <| ai (bz hg HB) <| ai (bz hg HB) <| ai (nl hg BK329) <| ng hg BK329;clear BK329 HB;obtain ⟨BK329,HB,BK330,GW330,GE330,NB329_330,NB330_329⟩:=n_;clear hb hbox hg;have:=NB329_330.out;have:=NB330_329.out;obtain ⟨h42_0,h42_1,h42_2,h42_3⟩:=kb4 BK329.out;obtain ⟨z42_0,z42_1,z42_2,z42_3⟩:=kz4 BK329.out;obtain ⟨h43_0,h43_1,h43_2,h43_3⟩:=kb4 BK330.out;obtain ⟨z43_0,z43_1,z43_2,z43_3⟩:=kz4 BK330.out)|((with_reducible refine gate_callee (f:=43) rfl ?_);refine goesL_ (some 14) rfl rfl Try.func43 (by kernel_rfl) rfl #[.int .i64 a0_0,.int .i64 a1_0] rfl gs ?_;(with_reducible refine (cmp_Compare_int.calls a0_0 a1_0 t331 _ A38.out).mono ?_);rintro e w' ⟨rfl,⟨nd,rfl⟩⟩;refine ⟨_,rfl,?_⟩))
  go_ret
  exact ⟨cl,bl HB.out⟩

theorem slices_CompareFunc_of_impl_compareTerms.all (k:Nat):(∀ (A0:Option Addr) (c0:Nat) (l0:List (S26)) (A1:Option Addr) (c1:Nat) (l1:List (S26))  (r:Int) (w:World) (hr0:Kd.C k26 w A0 l0.length l0) (hc0:l0.length≤c0) (hr1:Kd.C k26 w A1 l1.length l1) (hc1:l1.length≤c1) (h:slices_CompareFunc_of_impl_compareTerms.f k l0 l1 = some r),Calls Try.prog 45 #[.slice A0 l0.length c0,.slice A1 l1.length c1,.func (.func 38) #[] #[]] w fun e w'=>e = .returned (.int .i64 r)∧Below w.heap.size w w')∧(∀ (a0_0:Int) (a0_1:Int) (a0_2:ByteArray) (A0_3:Option Addr) (c0_3:Nat) (l0_3:List (S26)) (a1_0:Int) (a1_1:Int) (a1_2:ByteArray) (A1_3:Option Addr) (c1_3:Nat) (l1_3:List (S26)) (r:Int) (w:World) (hr0_3:Kd.C k26 w A0_3 l0_3.length l0_3) (hc0_3:l0_3.length≤c0_3) (hr1_3:Kd.C k26 w A1_3 l1_3.length l1_3) (hc1_3:l1_3.length≤c1_3) (h:impl_compareTerms.f k a0_0 a0_1 a0_2 l0_3 a1_0 a1_1 a1_2 l1_3 = some r),Calls Try.prog 38 #[.agg #[.int .i64 a0_0,.int .i64 a0_1,.string a0_2,.slice A0_3 l0_3.length c0_3],.agg #[.int .i64 a1_0,.int .i64 a1_1,.string a1_2,.slice A1_3 l1_3.length c1_3]] w fun e w'=>e = .returned (.int .i64 r)∧Below w.heap.size w w'):=by
 induction k using Nat.strongRecOn with
 | _ k ih =>
 exact ⟨slices_CompareFunc_of_impl_compareTerms.step k (fun k_ h_=>(ih k_ h_).1) (fun k_ h_=>(ih k_ h_).2),impl_compareTerms.step k (fun k_ h_=>(ih k_ h_).1) (fun k_ h_=>(ih k_ h_).2)⟩
theorem slices_CompareFunc_of_impl_compareTerms.calls (k:Nat):∀ (A0:Option Addr) (c0:Nat) (l0:List (S26)) (A1:Option Addr) (c1:Nat) (l1:List (S26))  (r:Int) (w:World) (hr0:Kd.C k26 w A0 l0.length l0) (hc0:l0.length≤c0) (hr1:Kd.C k26 w A1 l1.length l1) (hc1:l1.length≤c1) (h:slices_CompareFunc_of_impl_compareTerms.f k l0 l1 = some r),Calls Try.prog 45 #[.slice A0 l0.length c0,.slice A1 l1.length c1,.func (.func 38) #[] #[]] w fun e w'=>e = .returned (.int .i64 r)∧Below w.heap.size w w':=(slices_CompareFunc_of_impl_compareTerms.all k).1
theorem impl_compareTerms.calls (k:Nat):∀ (a0_0:Int) (a0_1:Int) (a0_2:ByteArray) (A0_3:Option Addr) (c0_3:Nat) (l0_3:List (S26)) (a1_0:Int) (a1_1:Int) (a1_2:ByteArray) (A1_3:Option Addr) (c1_3:Nat) (l1_3:List (S26)) (r:Int) (w:World) (hr0_3:Kd.C k26 w A0_3 l0_3.length l0_3) (hc0_3:l0_3.length≤c0_3) (hr1_3:Kd.C k26 w A1_3 l1_3.length l1_3) (hc1_3:l1_3.length≤c1_3) (h:impl_compareTerms.f k a0_0 a0_1 a0_2 l0_3 a1_0 a1_1 a1_2 l1_3 = some r),Calls Try.prog 38 #[.agg #[.int .i64 a0_0,.int .i64 a0_1,.string a0_2,.slice A0_3 l0_3.length c0_3],.agg #[.int .i64 a1_0,.int .i64 a1_1,.string a1_2,.slice A1_3 l1_3.length c1_3]] w fun e w'=>e = .returned (.int .i64 r)∧Below w.heap.size w w':=(slices_CompareFunc_of_impl_compareTerms.all k).2

/-! ### impl_LessTerm: function 28 -/
def impl_LessTerm.f (k:Nat) (a0_0:Int) (a0_1:Int) (a0_2:ByteArray) (l0_3:List (S26)) (a1_0:Int) (a1_1:Int) (a1_2:ByteArray) (l1_3:List (S26)):Option (Bool):=(impl_compareTerms.f k a0_0 a0_1 a0_2 l0_3 a1_0 a1_1 a1_2 l1_3).bind fun t339=>(some (decide (t339 < 0)))
theorem impl_LessTerm.mono:∀ a0 a1 a2 a3 a4 a5 a6 a7 k,LeO (impl_LessTerm.f k a0 a1 a2 a3 a4 a5 a6 a7) (impl_LessTerm.f (k + 1) a0 a1 a2 a3 a4 a5 a6 a7):=by
 intro a0 a1 a2 a3 a4 a5 a6 a7 k
 unfold impl_LessTerm.f
 with_reducible repeat' first|apply impl_compareTerms.mono|apply LeO.refl|apply LeO.none|apply LeO.ite|refine LeO.bind ?_ (fun _=>?_)
set_option maxHeartbeats 8000000 in
set_option maxRecDepth 100000 in
theorem impl_LessTerm.calls (k:Nat) (a0_0:Int) (a0_1:Int) (a0_2:ByteArray) (A0_3:Option Addr) (c0_3:Nat) (l0_3:List (S26)) (a1_0:Int) (a1_1:Int) (a1_2:ByteArray) (A1_3:Option Addr) (c1_3:Nat) (l1_3:List (S26)) (r:Bool) (w:World) (hr0_3:Kd.C k26 w A0_3 l0_3.length l0_3) (hc0_3:l0_3.length≤c0_3) (hr1_3:Kd.C k26 w A1_3 l1_3.length l1_3) (hc1_3:l1_3.length≤c1_3) (h:impl_LessTerm.f k a0_0 a0_1 a0_2 l0_3 a1_0 a1_1 a1_2 l1_3 = some r) :
  Calls Try.prog 28 #[.agg #[.int .i64 a0_0,.int .i64 a0_1,.string a0_2,.slice A0_3 l0_3.length c0_3],.agg #[.int .i64 a1_0,.int .i64 a1_1,.string a1_2,.slice A1_3 l1_3.length c1_3]] w fun e w'=>e = .returned (.bool r)∧Below w.heap.size w w':=by
 have hu26:=Try.underlying26;have HR0_3:=Aside0.mk hr0_3;have HC0_3:=Aside0.mk hc0_3;clear hr0_3 hc0_3;have HR1_3:=Aside0.mk hr1_3;have HC1_3:=Aside0.mk hc1_3;clear hr1_3 hc1_3;have HB:=Aside0.mk (Below.refl w.heap.size w);have H:((impl_compareTerms.f k a0_0 a0_1 a0_2 l0_3 a1_0 a1_1 a1_2 l1_3).bind fun t339=>(some (decide (t339 < 0)))) = some r:=h;clear h;replace H:=Option.bind_eq_some_iff.mp H;obtain ⟨t339,A30,H⟩:=H;replace H:(some (decide (t339 < 0))) = some r:=H;have A3:=Aside0.mk A30;clear A30;obtain rfl:=Option.some.inj H
 go_enter Try.func28,Try.ntmps28
 go_wp2_with (first|((with_reducible refine gate_dst (N:=2) rfl ?_);refine box_event ?hg (N:=2) ?hd (cs:=#[.int .i64 a0_0,.int .i64 a0_1,.string a0_2,.slice A0_3 l0_3.length c0_3]) (t:=26) ?hr ?_;(case hd=>rfl);(case hg=>rfl);(case hr=>first|(go_simp;done)|(go_simp;rfl));intro gb337 hg w4 hbox hb;have n_:=ai (bq HB hb) <| ai (Aside0.mk (hbox)) <| ai (bz hg HB) <| bz hg HB;clear HB;obtain ⟨HB,BK337,GW337,GE337⟩:=n_;clear hb hbox hg)|((with_reducible refine gate_dst (N:=3) rfl ?_);refine box_event ?hg (N:=3) ?hd (cs:=#[.int .i64 a1_0,.int .i64 a1_1,.string a1_2,.slice A1_3 l1_3.length c1_3]) (t:=26) ?hr ?_;(case hd=>rfl);(case hg=>rfl);(case hr=>first|(go_simp;done)|(go_simp;rfl));intro gb338 hg w5 hbox hb;have n_:=ai (bw BK337 hb) <| ai (bq HB hb) <| ai (Aside0.mk (hbox)) <| ai (bz hg HB) <| ai (bz hg HB) <| ai (nl hg BK337) <| ng hg BK337;clear BK337 HB;obtain ⟨BK337,HB,BK338,GW338,GE338,NB337_338,NB338_337⟩:=n_;clear hb hbox hg;have:=NB337_338.out;have:=NB338_337.out;obtain ⟨h7_0,h7_1,h7_2,h7_3⟩:=kb4 BK337.out;obtain ⟨z7_0,z7_1,z7_2,z7_3⟩:=kz4 BK337.out;obtain ⟨h8_0,h8_1,h8_2,h8_3⟩:=kb4 BK338.out;obtain ⟨z8_0,z8_1,z8_2,z8_3⟩:=kz4 BK338.out)|((with_reducible refine gate_callee (f:=38) rfl ?_);refine goesL_ (some 7) rfl rfl Try.func38 (by kernel_rfl) rfl #[.agg #[.int .i64 a0_0,.int .i64 a0_1,.string a0_2,.slice A0_3 l0_3.length c0_3],.agg #[.int .i64 a1_0,.int .i64 a1_1,.string a1_2,.slice A1_3 l1_3.length c1_3]] rfl gs ?_;(with_reducible refine (impl_compareTerms.calls k a0_0 a0_1 a0_2 _ _ l0_3 a1_0 a1_1 a1_2 _ _ l1_3 t339 _ ?side1 ?side2 ?side3 ?side4 A3.out).mono ?_);(case side1=>exact ck (Kd.C_below HR0_3.out HB.out));(case side2=>exact HC0_3.out);(case side3=>exact ck (Kd.C_below HR1_3.out HB.out));(case side4=>exact HC1_3.out);rintro e w9 ⟨rfl,hb⟩;refine ⟨_,rfl,?_⟩;have n_:=ai (bw BK337 hb) <| ai (bw BK338 hb) <| bq HB hb;clear BK337 BK338 HB;obtain ⟨BK337,BK338,HB⟩:=n_;(try clear hb);(try clear hi)))
 go_ret
 exact ⟨cl,bl HB.out⟩

/-! ### impl_product: function 39 -/
def impl_product.j0:Nat → Int → Int → Bool → Option (Int × Bool)
 | 0,_,_,_=>none
 | k + 1,x0,x1,x11=>if x11 = true then (some (0,true)) else (if (mx x1 (wrap64 (-x1))) = 0 then (none) else (if (mx x0 (wrap64 (-x0))) > (wrap64 ((1000000000000:Int) / (mx x1 (wrap64 (-x1))))) then (some (0,false)) else (some (wrap64 (x0 * x1),true))))
def impl_product.f (k:Nat) (a0:Int) (a1:Int):Option (Int × Bool):=if a0 = 0 then (impl_product.j0 k a0 a1 true) else (impl_product.j0 k a0 a1 (a1 == 0))
theorem impl_product.mono_l:∀ k,(∀ y0 y1 y2,LeO (impl_product.j0 k y0 y1 y2) (impl_product.j0 (k + 1) y0 y1 y2))
 | 0=>fun _ _ _ r h=>by simp [impl_product.j0] at h
 | k + 1=>by
  have ih0:=impl_product.mono_l k
  ·intro y0 y1 y2
   unfold impl_product.j0
   with_reducible repeat' first|apply ih0|apply LeO.refl|apply LeO.none|apply LeO.ite|refine LeO.bind ?_ (fun _=>?_)
theorem impl_product.mono:∀ a0 a1 k,LeO (impl_product.f k a0 a1) (impl_product.f (k + 1) a0 a1):=by
 intro a0 a1 k;have ih0:=impl_product.mono_l k
 unfold impl_product.f
 with_reducible repeat' first|apply ih0|apply LeO.refl|apply LeO.none|apply LeO.ite|refine LeO.bind ?_ (fun _=>?_)
set_option maxHeartbeats 8000000 in
set_option maxRecDepth 100000 in
theorem impl_product.calls (k:Nat) (a0:Int) (a1:Int) (r1:Int) (r2:Bool) (w:World) (h:impl_product.f k a0 a1 = some (r1,r2)) :
  Calls Try.prog 39 #[.int .i64 a0,.int .i64 a1] w fun e w'=>e = .returned (.tuple #[.int .i64 r1,.bool r2])∧Below w.heap.size w w':=by
 have HB:=Aside0.mk (Below.refl w.heap.size w);have H:(if a0 = 0 then (impl_product.j0 k a0 a1 true) else (impl_product.j0 k a0 a1 (a1 == 0))) = some (r1,r2):=h;clear h;have HC3:=Aside0.mk H;clear H
 go_enter Try.func39,Try.ntmps39
 go_upto_region 1 with (fail)
 go_cut [11] (fun v11 wc=>∃ (kq:Nat) (x11_2:Bool),v11 = .bool x11_2∧Aside0 (impl_product.j0 kq a0 a1 x11_2 = some (r1,r2))∧Aside0 (kq≤k)∧Aside0 (Below w.heap.size w wc))
 case first =>
  have H:=HC3.out;clear HC3
  by_cases c4:a0 = 0
  ·rw [if_pos c4] at H
   have c4b0:(a0 == 0) = true:=beq_iff_eq.mpr c4;have c4b1:(a0 != 0) = false:=bne_eq_false_iff_eq.mpr c4;clear c4
   (first|rw [c4b0]|(simp only [i64_w,i32_w];rw [c4b0])|(simp only [c4b2,Bool.not_true,Bool.not_false])|skip)
   have H':=Aside0.mk H;clear H
   go_wp2
   go_meet
   case rel=>exact ⟨_,(true),(cl2),H',⟨by first|omega|exact Nat.le_refl _⟩,⟨bl HB.out⟩⟩
  ·rw [if_neg c4] at H
   have c4b0:(a0 == 0) = false:=beq_eq_false_iff_ne.mpr c4;have c4b1:(a0 != 0) = true:=bne_iff_ne.mpr c4
   (first|rw [c4b0]|(simp only [i64_w,i32_w];rw [c4b0])|(simp only [c4b2,Bool.not_true,Bool.not_false])|skip)
   have H':=Aside0.mk H;clear H
   go_wp2
   go_meet
   case rel=>exact ⟨_,((a1 == 0)),(cl2),H',⟨by first|omega|exact Nat.le_refl _⟩,⟨bl HB.out⟩⟩
 case rest =>
  clear HC3;(try clear HB);obtain ⟨kq,x11_2,rfl,HA,HJ2,HB⟩:=hcut
  cases kq with
  | zero=>exact absurd HA.out (by simp [impl_product.j0])
  | succ kj2 =>
   have H:=HA.out;clear HA;simp only [impl_product.j0] at H
   by_cases c5:x11_2 = true
   ·subst c5
    have H1:(some (0,true)) = some (r1,r2):=by rw [if_pos rfl] at H;exact H
    clear H;have H:=H1;clear H1;simp only [Option.some.injEq,Prod.mk.injEq] at H;obtain ⟨rfl,rfl⟩:=H
    go_wp2
    go_ret2
    exact ⟨cl,bl HB.out⟩
   ·replace c5:=Bool.eq_false_iff.mpr c5
    subst c5;have H1:(if (mx a1 (wrap64 (-a1))) = 0 then (none) else (if (mx a0 (wrap64 (-a0))) > (wrap64 ((1000000000000:Int) / (mx a1 (wrap64 (-a1))))) then (some (0,false)) else (some (wrap64 (a0 * a1),true)))) = some (r1,r2):=by rw [if_neg (show ¬ (false = true) by decide)] at H;exact H
    clear H;have H:=H1;clear H1;obtain ⟨ji6,hji6⟩:∃ j_:Int,(mx a0 (wrap64 (-a0))) = j_:=⟨_,rfl⟩;replace H:(if (mx a1 (wrap64 (-a1))) = 0 then (none) else (if (ji6) > (wrap64 ((1000000000000:Int) / (mx a1 (wrap64 (-a1))))) then (some (0,false)) else (some (wrap64 (a0 * a1),true)))) = some (r1,r2):=by first|(rw [hji6] at H;exact H)|(simp only [hji6] at H ⊢;exact H)
    have hji6_:(if a0 < (wrap64 (-a0)) then (wrap64 (-a0)) else a0) = ji6:=hji6;obtain ⟨ji7,hji7⟩:∃ j_:Int,(mx a1 (wrap64 (-a1))) = j_:=⟨_,rfl⟩;replace H:(if (ji7) = 0 then (none) else (if (ji6) > (wrap64 ((1000000000000:Int) / (ji7))) then (some (0,false)) else (some (wrap64 (a0 * a1),true)))) = some (r1,r2):=by first|(rw [hji7] at H;exact H)|(simp only [hji7] at H ⊢;exact H)
    have hji7_:(if a1 < (wrap64 (-a1)) then (wrap64 (-a1)) else a1) = ji7:=hji7
    by_cases c8:(ji7) = 0
    ·rw [if_pos c8] at H
     exact absurd H (by simp)
    ·rw [if_neg c8] at H
     have c8b0:((ji7) == 0) = false:=beq_eq_false_iff_ne.mpr c8;have c8b1:((ji7) != 0) = true:=bne_iff_ne.mpr c8
     by_cases c9:(ji6) > (wrap64 ((1000000000000:Int) / (ji7)))
     ·rw [if_pos c9] at H
      have c9b0:decide ((wrap64 ((1000000000000:Int) / (ji7))) < (ji6)) = true:=decide_eq_true c9;clear c9;simp only [Option.some.injEq,Prod.mk.injEq] at H;obtain ⟨rfl,rfl⟩:=H
      go_wp2
      go_ret2
      exact ⟨by first|rfl|(simp [errW_none,errW_some] <;> rfl)|(simp only [← hji6,← hji7];first|rfl|(simp [errW_none,errW_some] <;> rfl))|(simp [*,errW_none,errW_some] <;> rfl),bl HB.out⟩
     ·rw [if_neg c9] at H
      have c9b0:decide ((wrap64 ((1000000000000:Int) / (ji7))) < (ji6)) = false:=decide_eq_false c9;clear c9;simp only [Option.some.injEq,Prod.mk.injEq] at H;obtain ⟨rfl,rfl⟩:=H
      go_wp2
      go_ret2
      exact ⟨by first|rfl|(simp [errW_none,errW_some] <;> rfl)|(simp only [← hji6,← hji7];first|rfl|(simp [errW_none,errW_some] <;> rfl))|(simp [*,errW_none,errW_some] <;> rfl),bl HB.out⟩

/-! ### impl_arith: function 29 -/
def impl_arith.f (k:Nat) (a0:ByteArray) (a1:Int) (a2:Int):Option (Int × Int × ByteArray × (List (S26)) × Int):=if a0.toList = ([43]:List UInt8) then ((impl_inRange.f (wrap64 (a1 + a2)) (-1000000000000) 1000000000000).bind fun t341=>(if t341 = true then (some (1,wrap64 (a1 + a2),(⟨#[]⟩:ByteArray),([]:List (S26)),0)) else (some (0,0,(⟨#[]⟩:ByteArray),([]:List (S26)),3)))) else (if a0.toList = ([45]:List UInt8) then ((impl_inRange.f (wrap64 (a1 - a2)) (-1000000000000) 1000000000000).bind fun t342=>(if t342 = true then (some (1,wrap64 (a1 - a2),(⟨#[]⟩:ByteArray),([]:List (S26)),0)) else (some (0,0,(⟨#[]⟩:ByteArray),([]:List (S26)),3)))) else ((impl_product.f k a1 a2).bind fun bt343=>(if bt343.2 = true then ((impl_inRange.f bt343.1 (-1000000000000) 1000000000000).bind fun t345=>(if t345 = true then (some (1,bt343.1,(⟨#[]⟩:ByteArray),([]:List (S26)),0)) else (some (0,0,(⟨#[]⟩:ByteArray),([]:List (S26)),3)))) else (some (0,0,(⟨#[]⟩:ByteArray),([]:List (S26)),3)))))
theorem impl_arith.mono:∀ a0 a1 a2 k,LeO (impl_arith.f k a0 a1 a2) (impl_arith.f (k + 1) a0 a1 a2):=by
 intro a0 a1 a2 k
 unfold impl_arith.f
 with_reducible repeat' first|apply impl_product.mono|apply LeO.refl|apply LeO.none|apply LeO.ite|refine LeO.bind ?_ (fun _=>?_)
set_option maxHeartbeats 8000000 in
set_option maxRecDepth 100000 in
theorem impl_arith.calls (k:Nat) (a0:ByteArray) (a1:Int) (a2:Int) (r1:Int) (r2:Int) (r3:ByteArray) (r4:List (S26)) (r5:Int) (w:World) (h:impl_arith.f k a0 a1 a2 = some (r1,r2,r3,r4,r5)) :
  Calls Try.prog 29 #[.string a0,.int .i64 a1,.int .i64 a2] w fun e w'=>∃ v3_:Value,e = .returned (.tuple #[.agg #[.int .i64 r1,.int .i64 r2,.string r3,v3_],.int .i64 r5])∧Kd.R k26 26 w' w.heap.size (fun _=>True) v3_ r4∧Below w.heap.size w w':=by
 have hu26:=Try.underlying26;have HB:=Aside0.mk (Below.refl w.heap.size w);have H:(if a0.toList = ([43]:List UInt8) then ((impl_inRange.f (wrap64 (a1 + a2)) (-1000000000000) 1000000000000).bind fun t341=>(if t341 = true then (some (1,wrap64 (a1 + a2),(⟨#[]⟩:ByteArray),([]:List (S26)),0)) else (some (0,0,(⟨#[]⟩:ByteArray),([]:List (S26)),3)))) else (if a0.toList = ([45]:List UInt8) then ((impl_inRange.f (wrap64 (a1 - a2)) (-1000000000000) 1000000000000).bind fun t342=>(if t342 = true then (some (1,wrap64 (a1 - a2),(⟨#[]⟩:ByteArray),([]:List (S26)),0)) else (some (0,0,(⟨#[]⟩:ByteArray),([]:List (S26)),3)))) else ((impl_product.f k a1 a2).bind fun bt343=>(if bt343.2 = true then ((impl_inRange.f bt343.1 (-1000000000000) 1000000000000).bind fun t345=>(if t345 = true then (some (1,bt343.1,(⟨#[]⟩:ByteArray),([]:List (S26)),0)) else (some (0,0,(⟨#[]⟩:ByteArray),([]:List (S26)),3)))) else (some (0,0,(⟨#[]⟩:ByteArray),([]:List (S26)),3)))))) = some (r1,r2,r3,r4,r5):=h;clear h
 by_cases c4:a0.toList = ([43]:List UInt8)
 ·rw [if_pos c4] at H
  have c4b0:(a0.toList == ([43]:List UInt8)) = true:=beq_iff_eq.mpr c4;have c4b1:(a0.toList != ([43]:List UInt8)) = false:=bne_eq_false_iff_eq.mpr c4;clear c4;replace H:=Option.bind_eq_some_iff.mp H;obtain ⟨t341,A50,H⟩:=H;replace H:(if t341 = true then (some (1,wrap64 (a1 + a2),(⟨#[]⟩:ByteArray),([]:List (S26)),0)) else (some (0,0,(⟨#[]⟩:ByteArray),([]:List (S26)),3))) = some (r1,r2,r3,r4,r5):=H;have A5:=Aside0.mk A50;clear A50
  by_cases c6:t341 = true
  ·subst c6
   have H1:(some (1,wrap64 (a1 + a2),(⟨#[]⟩:ByteArray),([]:List (S26)),0)) = some (r1,r2,r3,r4,r5):=by rw [if_pos rfl] at H;exact H
   clear H;have H:=H1;clear H1;simp only [Option.some.injEq,Prod.mk.injEq] at H;obtain ⟨rfl,rfl,rfl,rfl,rfl⟩:=H
   go_enter Try.func29,Try.ntmps29
   go_wp2_with (first|((with_reducible refine gate_dst (N:=6) rfl ?_);refine box_event ?hg (N:=6) ?hd (cs:=#[.int .i64 0,.int .i64 0,.string (⟨#[]⟩:ByteArray),.slice none 0 0]) (t:=26) ?hr ?_;(case hd=>rfl);(case hg=>rfl);(case hr=>first|(go_simp;done)|(go_simp;rfl));intro gb340 hg w7 hbox hb;have n_:=ai (bq HB hb) <| ai (Aside0.mk (hbox)) <| ai (bz hg HB) <| bz hg HB;clear HB;obtain ⟨HB,BK340,GW340,GE340⟩:=n_;clear hb hbox hg)|(go_at_call 40;(with_reducible refine (impl_inRange.calls (wrap64 (a1 + a2)) (-1000000000000) 1000000000000 true _ A5.out).mono ?_);rintro e w' ⟨rfl,⟨nd,rfl⟩⟩;(try (rw [drewN_self w7];generalize hq_:World.drewN w7 _ = w7;have n_:=ai ((⟨by rw [← hq_];exact (bk BK340.out)⟩:Aside0 (w7.heap[gb340]? = some (.cells #[.int .i64 0,.int .i64 0,.string (⟨#[]⟩:ByteArray),.slice none 0 0] 26 (0,0))))) <| (⟨by rw [← hq_];exact (bl HB.out)⟩:Aside0 (Below w.heap.size w w7));clear BK340 HB hq_;obtain ⟨BK340,HB⟩:=n_));obtain ⟨h8_0,h8_1,h8_2,h8_3⟩:=kb4 BK340.out;obtain ⟨z8_0,z8_1,z8_2,z8_3⟩:=kz4 BK340.out))
   refine bodyPost_ret (results_ct rfl _ _ gb340 26 #[.int .i64 1,.int .i64 (wrap64 (a1 + a2)),.string (⟨#[]⟩:ByteArray),.slice none 0 0] (0,0) _ rfl (bmp BK340.out) Try.underlying26 rfl (by kernel_rfl)) rfl ?_
   exact ⟨_,cl,by first|exact Kd.R_nil _ _ _ _ _|exact Kd.N_nil _ _ _ _ _|exact Kd.V_nil _ _ _ _ _|exact Kd.Q_nil _ _ _ _ _|exact Kd.S_nil _ _ _ _ _,bl HB.out⟩
  ·replace c6:=Bool.eq_false_iff.mpr c6
   subst c6;have H1:(some (0,0,(⟨#[]⟩:ByteArray),([]:List (S26)),3)) = some (r1,r2,r3,r4,r5):=by rw [if_neg (show ¬ (false = true) by decide)] at H;exact H
   clear H;have H:=H1;clear H1;simp only [Option.some.injEq,Prod.mk.injEq] at H;obtain ⟨rfl,rfl,rfl,rfl,rfl⟩:=H
   go_enter Try.func29,Try.ntmps29
   go_wp2_with (first|((with_reducible refine gate_dst (N:=6) rfl ?_);refine box_event ?hg (N:=6) ?hd (cs:=#[.int .i64 0,.int .i64 0,.string (⟨#[]⟩:ByteArray),.slice none 0 0]) (t:=26) ?hr ?_;(case hd=>rfl);(case hg=>rfl);(case hr=>first|(go_simp;done)|(go_simp;rfl));intro gb340 hg w9 hbox hb;have n_:=ai (bq HB hb) <| ai (Aside0.mk (hbox)) <| ai (bz hg HB) <| bz hg HB;clear HB;obtain ⟨HB,BK340,GW340,GE340⟩:=n_;clear hb hbox hg)|(go_at_call 40;(with_reducible refine (impl_inRange.calls (wrap64 (a1 + a2)) (-1000000000000) 1000000000000 false _ A5.out).mono ?_);rintro e w' ⟨rfl,⟨nd,rfl⟩⟩;(try (rw [drewN_self w9];generalize hq_:World.drewN w9 _ = w9;have n_:=ai ((⟨by rw [← hq_];exact (bk BK340.out)⟩:Aside0 (w9.heap[gb340]? = some (.cells #[.int .i64 0,.int .i64 0,.string (⟨#[]⟩:ByteArray),.slice none 0 0] 26 (0,0))))) <| (⟨by rw [← hq_];exact (bl HB.out)⟩:Aside0 (Below w.heap.size w w9));clear BK340 HB hq_;obtain ⟨BK340,HB⟩:=n_));obtain ⟨h10_0,h10_1,h10_2,h10_3⟩:=kb4 BK340.out;obtain ⟨z10_0,z10_1,z10_2,z10_3⟩:=kz4 BK340.out))
   refine bodyPost_ret (results_ct rfl _ _ gb340 26 #[.int .i64 0,.int .i64 0,.string (⟨#[]⟩:ByteArray),.slice none 0 0] (0,0) _ rfl (bmp BK340.out) Try.underlying26 rfl (by kernel_rfl)) rfl ?_
   exact ⟨_,cl,by first|exact Kd.R_nil _ _ _ _ _|exact Kd.N_nil _ _ _ _ _|exact Kd.V_nil _ _ _ _ _|exact Kd.Q_nil _ _ _ _ _|exact Kd.S_nil _ _ _ _ _,bl HB.out⟩
 ·rw [if_neg c4] at H
  have c4b0:(a0.toList == ([43]:List UInt8)) = false:=beq_eq_false_iff_ne.mpr c4;have c4b1:(a0.toList != ([43]:List UInt8)) = true:=bne_iff_ne.mpr c4
  by_cases c11:a0.toList = ([45]:List UInt8)
  ·rw [if_pos c11] at H
   have c11b0:(a0.toList == ([45]:List UInt8)) = true:=beq_iff_eq.mpr c11;have c11b1:(a0.toList != ([45]:List UInt8)) = false:=bne_eq_false_iff_eq.mpr c11;clear c11;replace H:=Option.bind_eq_some_iff.mp H;obtain ⟨t342,A120,H⟩:=H;replace H:(if t342 = true then (some (1,wrap64 (a1 - a2),(⟨#[]⟩:ByteArray),([]:List (S26)),0)) else (some (0,0,(⟨#[]⟩:ByteArray),([]:List (S26)),3))) = some (r1,r2,r3,r4,r5):=H;have A12:=Aside0.mk A120;clear A120
   by_cases c13:t342 = true
   ·subst c13
    have H1:(some (1,wrap64 (a1 - a2),(⟨#[]⟩:ByteArray),([]:List (S26)),0)) = some (r1,r2,r3,r4,r5):=by rw [if_pos rfl] at H;exact H
    clear H;have H:=H1;clear H1;simp only [Option.some.injEq,Prod.mk.injEq] at H;obtain ⟨rfl,rfl,rfl,rfl,rfl⟩:=H
    go_enter Try.func29,Try.ntmps29
    go_wp2_with (first|((with_reducible refine gate_dst (N:=6) rfl ?_);refine box_event ?hg (N:=6) ?hd (cs:=#[.int .i64 0,.int .i64 0,.string (⟨#[]⟩:ByteArray),.slice none 0 0]) (t:=26) ?hr ?_;(case hd=>rfl);(case hg=>rfl);(case hr=>first|(go_simp;done)|(go_simp;rfl));intro gb340 hg w14 hbox hb;have n_:=ai (bq HB hb) <| ai (Aside0.mk (hbox)) <| ai (bz hg HB) <| bz hg HB;clear HB;obtain ⟨HB,BK340,GW340,GE340⟩:=n_;clear hb hbox hg)|(go_at_call 40;(with_reducible refine (impl_inRange.calls (wrap64 (a1 - a2)) (-1000000000000) 1000000000000 true _ A12.out).mono ?_);rintro e w' ⟨rfl,⟨nd,rfl⟩⟩;(try (rw [drewN_self w14];generalize hq_:World.drewN w14 _ = w14;have n_:=ai ((⟨by rw [← hq_];exact (bk BK340.out)⟩:Aside0 (w14.heap[gb340]? = some (.cells #[.int .i64 0,.int .i64 0,.string (⟨#[]⟩:ByteArray),.slice none 0 0] 26 (0,0))))) <| (⟨by rw [← hq_];exact (bl HB.out)⟩:Aside0 (Below w.heap.size w w14));clear BK340 HB hq_;obtain ⟨BK340,HB⟩:=n_));obtain ⟨h15_0,h15_1,h15_2,h15_3⟩:=kb4 BK340.out;obtain ⟨z15_0,z15_1,z15_2,z15_3⟩:=kz4 BK340.out))
    refine bodyPost_ret (results_ct rfl _ _ gb340 26 #[.int .i64 1,.int .i64 (wrap64 (a1 - a2)),.string (⟨#[]⟩:ByteArray),.slice none 0 0] (0,0) _ rfl (bmp BK340.out) Try.underlying26 rfl (by kernel_rfl)) rfl ?_
    exact ⟨_,cl,by first|exact Kd.R_nil _ _ _ _ _|exact Kd.N_nil _ _ _ _ _|exact Kd.V_nil _ _ _ _ _|exact Kd.Q_nil _ _ _ _ _|exact Kd.S_nil _ _ _ _ _,bl HB.out⟩
   ·replace c13:=Bool.eq_false_iff.mpr c13
    subst c13;have H1:(some (0,0,(⟨#[]⟩:ByteArray),([]:List (S26)),3)) = some (r1,r2,r3,r4,r5):=by rw [if_neg (show ¬ (false = true) by decide)] at H;exact H
    clear H;have H:=H1;clear H1;simp only [Option.some.injEq,Prod.mk.injEq] at H;obtain ⟨rfl,rfl,rfl,rfl,rfl⟩:=H
    go_enter Try.func29,Try.ntmps29
    go_wp2_with (first|((with_reducible refine gate_dst (N:=6) rfl ?_);refine box_event ?hg (N:=6) ?hd (cs:=#[.int .i64 0,.int .i64 0,.string (⟨#[]⟩:ByteArray),.slice none 0 0]) (t:=26) ?hr ?_;(case hd=>rfl);(case hg=>rfl);(case hr=>first|(go_simp;done)|(go_simp;rfl));intro gb340 hg w16 hbox hb;have n_:=ai (bq HB hb) <| ai (Aside0.mk (hbox)) <| ai (bz hg HB) <| bz hg HB;clear HB;obtain ⟨HB,BK340,GW340,GE340⟩:=n_;clear hb hbox hg)|(go_at_call 40;(with_reducible refine (impl_inRange.calls (wrap64 (a1 - a2)) (-1000000000000) 1000000000000 false _ A12.out).mono ?_);rintro e w' ⟨rfl,⟨nd,rfl⟩⟩;(try (rw [drewN_self w16];generalize hq_:World.drewN w16 _ = w16;have n_:=ai ((⟨by rw [← hq_];exact (bk BK340.out)⟩:Aside0 (w16.heap[gb340]? = some (.cells #[.int .i64 0,.int .i64 0,.string (⟨#[]⟩:ByteArray),.slice none 0 0] 26 (0,0))))) <| (⟨by rw [← hq_];exact (bl HB.out)⟩:Aside0 (Below w.heap.size w w16));clear BK340 HB hq_;obtain ⟨BK340,HB⟩:=n_));obtain ⟨h17_0,h17_1,h17_2,h17_3⟩:=kb4 BK340.out;obtain ⟨z17_0,z17_1,z17_2,z17_3⟩:=kz4 BK340.out))
    refine bodyPost_ret (results_ct rfl _ _ gb340 26 #[.int .i64 0,.int .i64 0,.string (⟨#[]⟩:ByteArray),.slice none 0 0] (0,0) _ rfl (bmp BK340.out) Try.underlying26 rfl (by kernel_rfl)) rfl ?_
    exact ⟨_,cl,by first|exact Kd.R_nil _ _ _ _ _|exact Kd.N_nil _ _ _ _ _|exact Kd.V_nil _ _ _ _ _|exact Kd.Q_nil _ _ _ _ _|exact Kd.S_nil _ _ _ _ _,bl HB.out⟩
  ·rw [if_neg c11] at H
   have c11b0:(a0.toList == ([45]:List UInt8)) = false:=beq_eq_false_iff_ne.mpr c11;have c11b1:(a0.toList != ([45]:List UInt8)) = true:=bne_iff_ne.mpr c11;replace H:=Option.bind_eq_some_iff.mp H;obtain ⟨⟨t343,t344⟩,A180,H⟩:=H;replace H:(if t344 = true then ((impl_inRange.f t343 (-1000000000000) 1000000000000).bind fun t345=>(if t345 = true then (some (1,t343,(⟨#[]⟩:ByteArray),([]:List (S26)),0)) else (some (0,0,(⟨#[]⟩:ByteArray),([]:List (S26)),3)))) else (some (0,0,(⟨#[]⟩:ByteArray),([]:List (S26)),3))) = some (r1,r2,r3,r4,r5):=H;have A18:=Aside0.mk A180;clear A180
   by_cases c19:t344 = true
   ·subst c19
    have H1:((impl_inRange.f t343 (-1000000000000) 1000000000000).bind fun t345=>(if t345 = true then (some (1,t343,(⟨#[]⟩:ByteArray),([]:List (S26)),0)) else (some (0,0,(⟨#[]⟩:ByteArray),([]:List (S26)),3)))) = some (r1,r2,r3,r4,r5):=by rw [if_pos rfl] at H;exact H
    clear H;have H:=H1;clear H1;replace H:=Option.bind_eq_some_iff.mp H;obtain ⟨t345,A200,H⟩:=H;replace H:(if t345 = true then (some (1,t343,(⟨#[]⟩:ByteArray),([]:List (S26)),0)) else (some (0,0,(⟨#[]⟩:ByteArray),([]:List (S26)),3))) = some (r1,r2,r3,r4,r5):=H;have A20:=Aside0.mk A200;clear A200
    by_cases c21:t345 = true
    ·subst c21
     have H1:(some (1,t343,(⟨#[]⟩:ByteArray),([]:List (S26)),0)) = some (r1,r2,r3,r4,r5):=by rw [if_pos rfl] at H;exact H
     clear H;have H:=H1;clear H1;simp only [Option.some.injEq,Prod.mk.injEq] at H;obtain ⟨rfl,rfl,rfl,rfl,rfl⟩:=H
     go_enter Try.func29,Try.ntmps29
     go_wp2_with (first|((with_reducible refine gate_dst (N:=6) rfl ?_);refine box_event ?hg (N:=6) ?hd (cs:=#[.int .i64 0,.int .i64 0,.string (⟨#[]⟩:ByteArray),.slice none 0 0]) (t:=26) ?hr ?_;(case hd=>rfl);(case hg=>rfl);(case hr=>first|(go_simp;done)|(go_simp;rfl));intro gb340 hg w22 hbox hb;have n_:=ai (bq HB hb) <| ai (Aside0.mk (hbox)) <| ai (bz hg HB) <| bz hg HB;clear HB;obtain ⟨HB,BK340,GW340,GE340⟩:=n_;clear hb hbox hg)|((with_reducible refine gate_callee (f:=39) rfl ?_);refine goesL_ (some 14) rfl rfl Try.func39 (by kernel_rfl) rfl #[.int .i64 a1,.int .i64 a2] rfl gs ?_;(with_reducible refine (impl_product.calls k a1 a2 t343 true _ A18.out).mono ?_);rintro e w23 ⟨rfl,hb⟩;refine ⟨_,rfl,?_⟩;have n_:=ai (bw BK340 hb) <| bq HB hb;clear BK340 HB;obtain ⟨BK340,HB⟩:=n_;(try clear hb);(try clear hi))|(go_at_call 40;(with_reducible refine (impl_inRange.calls t343 (-1000000000000) 1000000000000 true _ A20.out).mono ?_);rintro e w' ⟨rfl,⟨nd,rfl⟩⟩;(try (rw [drewN_self w23];generalize hq_:World.drewN w23 _ = w23;have n_:=ai ((⟨by rw [← hq_];exact (bk BK340.out)⟩:Aside0 (w23.heap[gb340]? = some (.cells #[.int .i64 0,.int .i64 0,.string (⟨#[]⟩:ByteArray),.slice none 0 0] 26 (0,0))))) <| (⟨by rw [← hq_];exact (bl HB.out)⟩:Aside0 (Below w.heap.size w w23));clear BK340 HB hq_;obtain ⟨BK340,HB⟩:=n_));obtain ⟨h24_0,h24_1,h24_2,h24_3⟩:=kb4 BK340.out;obtain ⟨z24_0,z24_1,z24_2,z24_3⟩:=kz4 BK340.out))
     refine bodyPost_ret (results_ct rfl _ _ gb340 26 #[.int .i64 1,.int .i64 t343,.string (⟨#[]⟩:ByteArray),.slice none 0 0] (0,0) _ rfl (bmp BK340.out) Try.underlying26 rfl (by kernel_rfl)) rfl ?_
     exact ⟨_,cl,by first|exact Kd.R_nil _ _ _ _ _|exact Kd.N_nil _ _ _ _ _|exact Kd.V_nil _ _ _ _ _|exact Kd.Q_nil _ _ _ _ _|exact Kd.S_nil _ _ _ _ _,bl HB.out⟩
    ·replace c21:=Bool.eq_false_iff.mpr c21
     subst c21;have H1:(some (0,0,(⟨#[]⟩:ByteArray),([]:List (S26)),3)) = some (r1,r2,r3,r4,r5):=by rw [if_neg (show ¬ (false = true) by decide)] at H;exact H
     clear H;have H:=H1;clear H1;simp only [Option.some.injEq,Prod.mk.injEq] at H;obtain ⟨rfl,rfl,rfl,rfl,rfl⟩:=H
     go_enter Try.func29,Try.ntmps29
     go_wp2_with (first|((with_reducible refine gate_dst (N:=6) rfl ?_);refine box_event ?hg (N:=6) ?hd (cs:=#[.int .i64 0,.int .i64 0,.string (⟨#[]⟩:ByteArray),.slice none 0 0]) (t:=26) ?hr ?_;(case hd=>rfl);(case hg=>rfl);(case hr=>first|(go_simp;done)|(go_simp;rfl));intro gb340 hg w25 hbox hb;have n_:=ai (bq HB hb) <| ai (Aside0.mk (hbox)) <| ai (bz hg HB) <| bz hg HB;clear HB;obtain ⟨HB,BK340,GW340,GE340⟩:=n_;clear hb hbox hg)|((with_reducible refine gate_callee (f:=39) rfl ?_);refine goesL_ (some 14) rfl rfl Try.func39 (by kernel_rfl) rfl #[.int .i64 a1,.int .i64 a2] rfl gs ?_;(with_reducible refine (impl_product.calls k a1 a2 t343 true _ A18.out).mono ?_);rintro e w26 ⟨rfl,hb⟩;refine ⟨_,rfl,?_⟩;have n_:=ai (bw BK340 hb) <| bq HB hb;clear BK340 HB;obtain ⟨BK340,HB⟩:=n_;(try clear hb);(try clear hi))|(go_at_call 40;(with_reducible refine (impl_inRange.calls t343 (-1000000000000) 1000000000000 false _ A20.out).mono ?_);rintro e w' ⟨rfl,⟨nd,rfl⟩⟩;(try (rw [drewN_self w26];generalize hq_:World.drewN w26 _ = w26;have n_:=ai ((⟨by rw [← hq_];exact (bk BK340.out)⟩:Aside0 (w26.heap[gb340]? = some (.cells #[.int .i64 0,.int .i64 0,.string (⟨#[]⟩:ByteArray),.slice none 0 0] 26 (0,0))))) <| (⟨by rw [← hq_];exact (bl HB.out)⟩:Aside0 (Below w.heap.size w w26));clear BK340 HB hq_;obtain ⟨BK340,HB⟩:=n_));obtain ⟨h27_0,h27_1,h27_2,h27_3⟩:=kb4 BK340.out;obtain ⟨z27_0,z27_1,z27_2,z27_3⟩:=kz4 BK340.out))
     refine bodyPost_ret (results_ct rfl _ _ gb340 26 #[.int .i64 0,.int .i64 0,.string (⟨#[]⟩:ByteArray),.slice none 0 0] (0,0) _ rfl (bmp BK340.out) Try.underlying26 rfl (by kernel_rfl)) rfl ?_
     exact ⟨_,cl,by first|exact Kd.R_nil _ _ _ _ _|exact Kd.N_nil _ _ _ _ _|exact Kd.V_nil _ _ _ _ _|exact Kd.Q_nil _ _ _ _ _|exact Kd.S_nil _ _ _ _ _,bl HB.out⟩
   ·replace c19:=Bool.eq_false_iff.mpr c19
    subst c19;have H1:(some (0,0,(⟨#[]⟩:ByteArray),([]:List (S26)),3)) = some (r1,r2,r3,r4,r5):=by rw [if_neg (show ¬ (false = true) by decide)] at H;exact H
    clear H;have H:=H1;clear H1;simp only [Option.some.injEq,Prod.mk.injEq] at H;obtain ⟨rfl,rfl,rfl,rfl,rfl⟩:=H
    go_enter Try.func29,Try.ntmps29
    go_wp2_with (first|((with_reducible refine gate_dst (N:=6) rfl ?_);refine box_event ?hg (N:=6) ?hd (cs:=#[.int .i64 0,.int .i64 0,.string (⟨#[]⟩:ByteArray),.slice none 0 0]) (t:=26) ?hr ?_;(case hd=>rfl);(case hg=>rfl);(case hr=>first|(go_simp;done)|(go_simp;rfl));intro gb340 hg w28 hbox hb;have n_:=ai (bq HB hb) <| ai (Aside0.mk (hbox)) <| ai (bz hg HB) <| bz hg HB;clear HB;obtain ⟨HB,BK340,GW340,GE340⟩:=n_;clear hb hbox hg)|((with_reducible refine gate_callee (f:=39) rfl ?_);refine goesL_ (some 14) rfl rfl Try.func39 (by kernel_rfl) rfl #[.int .i64 a1,.int .i64 a2] rfl gs ?_;(with_reducible refine (impl_product.calls k a1 a2 t343 false _ A18.out).mono ?_);rintro e w29 ⟨rfl,hb⟩;refine ⟨_,rfl,?_⟩;have n_:=ai (bw BK340 hb) <| bq HB hb;clear BK340 HB;obtain ⟨BK340,HB⟩:=n_;(try clear hb);obtain ⟨h30_0,h30_1,h30_2,h30_3⟩:=kb4 BK340.out;obtain ⟨z30_0,z30_1,z30_2,z30_3⟩:=kz4 BK340.out))
    refine bodyPost_ret (results_ct rfl _ _ gb340 26 #[.int .i64 0,.int .i64 0,.string (⟨#[]⟩:ByteArray),.slice none 0 0] (0,0) _ rfl (bmp BK340.out) Try.underlying26 rfl (by kernel_rfl)) rfl ?_
    exact ⟨_,cl,by first|exact Kd.R_nil _ _ _ _ _|exact Kd.N_nil _ _ _ _ _|exact Kd.V_nil _ _ _ _ _|exact Kd.Q_nil _ _ _ _ _|exact Kd.S_nil _ _ _ _ _,bl HB.out⟩

end Go.Proofs.Ytbdbbgiglojnfaa.QFnOperated
