-- Written by a program of this workplace (print2.py) for this claim, over the print's words.
import Derived.Test.YtbdbbgiglojnfaaQFnOperatedx0
namespace Go.Proofs.Ytbdbbgiglojnfaa.QFnOperated
open Go.RowKit Go.Proofs.YtbdbbgiglojnfaaW.PrintWords Go.Proofs.YtbdbbgiglojnfaaW.PrintLast Go.Proofs.YtbdbbgiglojnfaaW.PrintMore
attribute [local go_sem] binOp_string_gtr max2_int min2_int max_two min_two max_three min_three max_four min_four   -- for this text's walks alone
set_option linter.unusedVariables false
set_option linter.unusedSimpArgs false

mutual
def slices_EqualFunc_of_impl_SameTerm.l0:Nat → List (S26) → List (S26) → Int → Int → Option (Bool)
 | 0,_,_,_,_=>none
 | k + 1,x1,x15,x16,x17=>if x17 < x16 then (if 0≤x17 then (if x17 < (x15.length:Int) then (if x17 < (x1.length:Int) then ((impl_SameTerm.f k ((rd_T26 x15 x17).f0) ((rd_T26 x15 x17).f1) ((rd_T26 x15 x17).f2) ((rd_T26 x15 x17).f3) ((rd_T26 x1 x17).f0) ((rd_T26 x1 x17).f1) ((rd_T26 x1 x17).f2) ((rd_T26 x1 x17).f3)).bind fun t315=>(if t315 = true then (slices_EqualFunc_of_impl_SameTerm.l0 k x1 x15 x16 (wrap64 (x17 + 1))) else (some false))) else (none)) else (none)) else (none)) else (some true)
def slices_EqualFunc_of_impl_SameTerm.f:Nat → List (S26) → List (S26) → Option (Bool)
 | 0,_,_=>none
 | k + 1,l0,l1=>if (l0.length:Int) = (l1.length:Int) then (slices_EqualFunc_of_impl_SameTerm.l0 k l1 l0 (l0.length:Int) 0) else (some false)
def impl_SameTerm.f:Nat → Int → Int → ByteArray → List (S26) → Int → Int → ByteArray → List (S26) → Option (Bool)
 | 0,_,_,_,_,_,_,_,_=>none
 | k + 1,a0_0,a0_1,a0_2,l0_3,a1_0,a1_1,a1_2,l1_3=>if a0_0 = a1_0 then (if a0_1 = a1_1 then (if a0_2.toList = a1_2.toList then ((slices_EqualFunc_of_impl_SameTerm.f k l0_3 l1_3).bind fun t318=>(some t318)) else (some false)) else (some false)) else (some false)
end
theorem slices_EqualFunc_of_impl_SameTerm.mono_g:∀ k,(∀ y0 y1,LeO (slices_EqualFunc_of_impl_SameTerm.f k y0 y1) (slices_EqualFunc_of_impl_SameTerm.f (k + 1) y0 y1))∧(∀ y0 y1 y2 y3,LeO (slices_EqualFunc_of_impl_SameTerm.l0 k y0 y1 y2 y3) (slices_EqualFunc_of_impl_SameTerm.l0 (k + 1) y0 y1 y2 y3))∧(∀ y0 y1 y2 y3 y4 y5 y6 y7,LeO (impl_SameTerm.f k y0 y1 y2 y3 y4 y5 y6 y7) (impl_SameTerm.f (k + 1) y0 y1 y2 y3 y4 y5 y6 y7))
 | 0=>⟨fun _ _ r h=>by simp [slices_EqualFunc_of_impl_SameTerm.f] at h,fun _ _ _ _ r h=>by simp [slices_EqualFunc_of_impl_SameTerm.l0] at h,fun _ _ _ _ _ _ _ _ r h=>by simp [impl_SameTerm.f] at h⟩
 | k + 1=>by
  obtain ⟨ih0,ih1,ih2⟩:=slices_EqualFunc_of_impl_SameTerm.mono_g k
  refine ⟨?_,?_,?_⟩
  ·intro y0 y1
   unfold slices_EqualFunc_of_impl_SameTerm.f
   with_reducible repeat' first|apply ih0|apply ih1|apply ih2|apply LeO.refl|apply LeO.none|apply LeO.ite|refine LeO.bind ?_ (fun _=>?_)
  ·intro y0 y1 y2 y3
   unfold slices_EqualFunc_of_impl_SameTerm.l0
   with_reducible repeat' first|apply ih0|apply ih1|apply ih2|apply LeO.refl|apply LeO.none|apply LeO.ite|refine LeO.bind ?_ (fun _=>?_)
  ·intro y0 y1 y2 y3 y4 y5 y6 y7
   unfold impl_SameTerm.f
   with_reducible repeat' first|apply ih0|apply ih1|apply ih2|apply LeO.refl|apply LeO.none|apply LeO.ite|refine LeO.bind ?_ (fun _=>?_)
theorem slices_EqualFunc_of_impl_SameTerm.mono:∀ a0 a1 k,LeO (slices_EqualFunc_of_impl_SameTerm.f k a0 a1) (slices_EqualFunc_of_impl_SameTerm.f (k + 1) a0 a1):=by
 intro a0 a1 k;obtain ⟨ih0,ih1,ih2⟩:=slices_EqualFunc_of_impl_SameTerm.mono_g k
 exact ih0 a0 a1
theorem impl_SameTerm.mono:∀ a0 a1 a2 a3 a4 a5 a6 a7 k,LeO (impl_SameTerm.f k a0 a1 a2 a3 a4 a5 a6 a7) (impl_SameTerm.f (k + 1) a0 a1 a2 a3 a4 a5 a6 a7):=by
 intro a0 a1 a2 a3 a4 a5 a6 a7 k;obtain ⟨ih0,ih1,ih2⟩:=slices_EqualFunc_of_impl_SameTerm.mono_g k
 exact ih2 a0 a1 a2 a3 a4 a5 a6 a7
/-! ### slices_EqualFunc_of_impl_SameTerm: function 22 -/
set_option maxHeartbeats 8000000 in
set_option maxRecDepth 100000 in
theorem slices_EqualFunc_of_impl_SameTerm.step (k:Nat) (ih_slices_EqualFunc_of_impl_SameTerm:∀ k_,k_ < k → ∀ (A0:Option Addr) (c0:Nat) (l0:List (S26)) (A1:Option Addr) (c1:Nat) (l1:List (S26))  (r:Bool) (w:World) (hr0:Kd.C k26 w A0 l0.length l0) (hc0:l0.length≤c0) (hr1:Kd.C k26 w A1 l1.length l1) (hc1:l1.length≤c1) (h:slices_EqualFunc_of_impl_SameTerm.f k_ l0 l1 = some r),Calls Try.prog 22 #[.slice A0 l0.length c0,.slice A1 l1.length c1,.func (.func 9) #[] #[]] w fun e w'=>e = .returned (.bool r)∧Below w.heap.size w w') (ih_impl_SameTerm:∀ k_,k_ < k → ∀ (a0_0:Int) (a0_1:Int) (a0_2:ByteArray) (A0_3:Option Addr) (c0_3:Nat) (l0_3:List (S26)) (a1_0:Int) (a1_1:Int) (a1_2:ByteArray) (A1_3:Option Addr) (c1_3:Nat) (l1_3:List (S26)) (r:Bool) (w:World) (hr0_3:Kd.C k26 w A0_3 l0_3.length l0_3) (hc0_3:l0_3.length≤c0_3) (hr1_3:Kd.C k26 w A1_3 l1_3.length l1_3) (hc1_3:l1_3.length≤c1_3) (h:impl_SameTerm.f k_ a0_0 a0_1 a0_2 l0_3 a1_0 a1_1 a1_2 l1_3 = some r),Calls Try.prog 9 #[.agg #[.int .i64 a0_0,.int .i64 a0_1,.string a0_2,.slice A0_3 l0_3.length c0_3],.agg #[.int .i64 a1_0,.int .i64 a1_1,.string a1_2,.slice A1_3 l1_3.length c1_3]] w fun e w'=>e = .returned (.bool r)∧Below w.heap.size w w'):∀ (A0:Option Addr) (c0:Nat) (l0:List (S26)) (A1:Option Addr) (c1:Nat) (l1:List (S26))  (r:Bool) (w:World) (hr0:Kd.C k26 w A0 l0.length l0) (hc0:l0.length≤c0) (hr1:Kd.C k26 w A1 l1.length l1) (hc1:l1.length≤c1) (h:slices_EqualFunc_of_impl_SameTerm.f k l0 l1 = some r),
  Calls Try.prog 22 #[.slice A0 l0.length c0,.slice A1 l1.length c1,.func (.func 9) #[] #[]] w fun e w'=>e = .returned (.bool r)∧Below w.heap.size w w':=by
 intro A0 c0 l0 A1 c1 l1 r w hr0 hc0 hr1 hc1 h
 cases k with
 | zero=>exact absurd h (by simp [slices_EqualFunc_of_impl_SameTerm.f])
 | succ k =>
 simp only [slices_EqualFunc_of_impl_SameTerm.f] at h;have hu26:=Try.underlying26;have HR0:=Aside0.mk hr0;have HC0:=Aside0.mk hc0;clear hr0 hc0;have HR1:=Aside0.mk hr1;have HC1:=Aside0.mk hc1;clear hr1 hc1;have HB:=Aside0.mk (Below.refl w.heap.size w);have H:(if (l0.length:Int) = (l1.length:Int) then (slices_EqualFunc_of_impl_SameTerm.l0 k l1 l0 (l0.length:Int) 0) else (some false)) = some r:=h;clear h
 by_cases c4:(l0.length:Int) = (l1.length:Int)
 ·rw [if_pos c4] at H
  have c4b0:((l0.length:Int) == (l1.length:Int)) = true:=beq_iff_eq.mpr c4;have c4b1:((l0.length:Int) != (l1.length:Int)) = false:=bne_eq_false_iff_eq.mpr c4;have c4b2:(l0.length == l1.length) = true:=by first|simpa using c4|(simp at c4 ⊢;omega)
  clear c4;have H':=Aside0.mk H;clear H
  go_enter Try.func22,Try.ntmps22
  go_wp2
  go_loopg [17] k (fun kq v17 w'=>∃ (x17_1:Int),v17 = .int .i64 x17_1∧Aside0 (slices_EqualFunc_of_impl_SameTerm.l0 kq l1 l0 (l0.length:Int) x17_1 = some r)∧Aside0 (kq≤k)∧Aside0 (Below w.heap.size w w'))
  case atStart=>exact ⟨(0),(cl2),H',⟨Nat.le_refl _⟩,⟨bl HB.out⟩⟩
  case round =>
   clear H';(try clear c1);(try clear c4);(try clear c4b0);(try clear c4b1);(try clear c4b2);(try clear HB);obtain ⟨x17_1,rfl,HA,HK1,HB⟩:=hrel
   cases gk with
   | zero=>exact absurd HA.out (by simp [slices_EqualFunc_of_impl_SameTerm.l0])
   | succ k1 =>
    have H:=HA.out;clear HA;simp only [slices_EqualFunc_of_impl_SameTerm.l0] at H
    by_cases c5:x17_1 < (l0.length:Int)
    ·rw [if_pos c5] at H
     have c5b0:decide (x17_1 < (l0.length:Int)) = true:=decide_eq_true c5;clear c5
     by_cases c6:0≤x17_1
     ·rw [if_pos c6] at H
      have c6b0:decide (0≤x17_1) = true:=decide_eq_true c6;clear c6
      by_cases c7:x17_1 < (l0.length:Int)
      ·rw [if_pos c7] at H
       have c7b0:decide (x17_1 < (l0.length:Int)) = true:=decide_eq_true c7;clear c7
       by_cases c8:x17_1 < (l1.length:Int)
       ·rw [if_pos c8] at H
        have c8b0:decide (x17_1 < (l1.length:Int)) = true:=decide_eq_true c8;clear c8;replace H:=Option.bind_eq_some_iff.mp H;obtain ⟨t315,A90,H⟩:=H;replace H:(if t315 = true then (slices_EqualFunc_of_impl_SameTerm.l0 k1 l1 l0 (l0.length:Int) (wrap64 (x17_1 + 1))) else (some false)) = some r:=H;have A9:=Aside0.mk A90;clear A90
        by_cases c10:t315 = true
        ·subst c10
         have H1:(slices_EqualFunc_of_impl_SameTerm.l0 k1 l1 l0 (l0.length:Int) (wrap64 (x17_1 + 1))) = some r:=by rw [if_pos rfl] at H;exact H
         clear H;have H:=H1;clear H1;have H':=Aside0.mk H;clear H;have p311:0≤(x17_1:Int):=od;have q311:x17_1 < (l0.length:Int):=od;obtain ⟨ad311,A311_3,c311_3,e311,hx311_0,hx311_1,hx311_2,hx311_3,hl311_3,hi311_3⟩:=at_T26 HR0.out x17_1 p311 q311;cases e311;replace hx311_0:=cb HB hx311_0;replace hx311_1:=cb HB hx311_1;replace hx311_2:=cb HB hx311_2;replace hx311_3:=cb HB hx311_3;have HR311_3:=Aside0.mk hi311_3;have HC311_3:=Aside0.mk hl311_3;clear hi311_3 hl311_3;replace p311:=eq_true p311;replace q311:=eq_true q311
         go_wp2_with (first|((with_reducible refine gate_dst (N:=8) rfl ?_);refine box_event ?hg (N:=8) ?hd (cs:=#[.int .i64 0,.int .i64 0,.string (⟨#[]⟩:ByteArray),.slice none 0 0]) (t:=26) ?hr ?_;(case hd=>rfl);(case hg=>rfl);(case hr=>first|(go_simp;done)|(go_simp;rfl));intro gb312 hg w11 hbox hb;have n_:=ai (bq HB hb) <| ai (Aside0.mk (hbox)) <| ai (bz hg HB) <| bz hg HB;clear HB;obtain ⟨HB,BK312,GW312,GE312⟩:=n_;clear hb hbox hg;obtain ⟨h12_0,h12_1,h12_2,h12_3⟩:=kb4 BK312.out;obtain ⟨z12_0,z12_1,z12_2,z12_3⟩:=kz4 BK312.out;have p313:0≤(x17_1:Int):=od;have q313:x17_1 < (l1.length:Int):=od;obtain ⟨ad313,A313_3,c313_3,e313,hx313_0,hx313_1,hx313_2,hx313_3,hl313_3,hi313_3⟩:=at_T26 HR1.out x17_1 p313 q313;cases e313;have hn313_0:ad313.block≠gb312:=Nat.ne_of_lt (Nat.lt_of_lt_of_le (by have:=World.block_lt_of_cell? _ _ hx313_0;first|rwa [add_block] at this|exact this) GW312.out);have hn313_1:ad313.block≠gb312:=Nat.ne_of_lt (Nat.lt_of_lt_of_le (by have:=World.block_lt_of_cell? _ _ hx313_0;first|rwa [add_block] at this|exact this) GW312.out);have hn313_2:ad313.block≠gb312:=Nat.ne_of_lt (Nat.lt_of_lt_of_le (by have:=World.block_lt_of_cell? _ _ hx313_0;first|rwa [add_block] at this|exact this) GW312.out);have hn313_3:ad313.block≠gb312:=Nat.ne_of_lt (Nat.lt_of_lt_of_le (by have:=World.block_lt_of_cell? _ _ hx313_0;first|rwa [add_block] at this|exact this) GW312.out);replace hx313_0:=cb HB hx313_0;replace hx313_1:=cb HB hx313_1;replace hx313_2:=cb HB hx313_2;replace hx313_3:=cb HB hx313_3;have HR313_3:=Aside0.mk hi313_3;have HC313_3:=Aside0.mk hl313_3;clear hi313_3 hl313_3;replace hx313_0:=(cell_far (p:=⟨gb312,0,none⟩) (by first|(rw [add_block];exact hn313_0)|(show (Addr.add _ _).block≠_;rw [add_block];exact hn313_0)|exact hn313_0) (.int .i64 ((rd_T26 l0 x17_1).f0))).trans hx313_0;replace hx313_1:=(cell_far (p:=⟨gb312,0,none⟩) (by first|(rw [add_block];exact hn313_0)|(show (Addr.add _ _).block≠_;rw [add_block];exact hn313_0)|exact hn313_0) (.int .i64 ((rd_T26 l0 x17_1).f0))).trans hx313_1;replace hx313_2:=(cell_far (p:=⟨gb312,0,none⟩) (by first|(rw [add_block];exact hn313_0)|(show (Addr.add _ _).block≠_;rw [add_block];exact hn313_0)|exact hn313_0) (.int .i64 ((rd_T26 l0 x17_1).f0))).trans hx313_2;replace hx313_3:=(cell_far (p:=⟨gb312,0,none⟩) (by first|(rw [add_block];exact hn313_0)|(show (Addr.add _ _).block≠_;rw [add_block];exact hn313_0)|exact hn313_0) (.int .i64 ((rd_T26 l0 x17_1).f0))).trans hx313_3;replace hx313_0:=(cell_far (p:=⟨gb312,1,none⟩) (by first|(rw [add_block];exact hn313_1)|(show (Addr.add _ _).block≠_;rw [add_block];exact hn313_1)|exact hn313_1) (.int .i64 ((rd_T26 l0 x17_1).f1))).trans hx313_0;replace hx313_1:=(cell_far (p:=⟨gb312,1,none⟩) (by first|(rw [add_block];exact hn313_1)|(show (Addr.add _ _).block≠_;rw [add_block];exact hn313_1)|exact hn313_1) (.int .i64 ((rd_T26 l0 x17_1).f1))).trans hx313_1;replace hx313_2:=(cell_far (p:=⟨gb312,1,none⟩) (by first|(rw [add_block];exact hn313_1)|(show (Addr.add _ _).block≠_;rw [add_block];exact hn313_1)|exact hn313_1) (.int .i64 ((rd_T26 l0 x17_1).f1))).trans hx313_2;replace hx313_3:=(cell_far (p:=⟨gb312,1,none⟩) (by first|(rw [add_block];exact hn313_1)|(show (Addr.add _ _).block≠_;rw [add_block];exact hn313_1)|exact hn313_1) (.int .i64 ((rd_T26 l0 x17_1).f1))).trans hx313_3;replace hx313_0:=(cell_far (p:=⟨gb312,2,none⟩) (by first|(rw [add_block];exact hn313_2)|(show (Addr.add _ _).block≠_;rw [add_block];exact hn313_2)|exact hn313_2) (.string ((rd_T26 l0 x17_1).f2))).trans hx313_0;replace hx313_1:=(cell_far (p:=⟨gb312,2,none⟩) (by first|(rw [add_block];exact hn313_2)|(show (Addr.add _ _).block≠_;rw [add_block];exact hn313_2)|exact hn313_2) (.string ((rd_T26 l0 x17_1).f2))).trans hx313_1;replace hx313_2:=(cell_far (p:=⟨gb312,2,none⟩) (by first|(rw [add_block];exact hn313_2)|(show (Addr.add _ _).block≠_;rw [add_block];exact hn313_2)|exact hn313_2) (.string ((rd_T26 l0 x17_1).f2))).trans hx313_2;replace hx313_3:=(cell_far (p:=⟨gb312,2,none⟩) (by first|(rw [add_block];exact hn313_2)|(show (Addr.add _ _).block≠_;rw [add_block];exact hn313_2)|exact hn313_2) (.string ((rd_T26 l0 x17_1).f2))).trans hx313_3;replace hx313_0:=(cell_far (p:=⟨gb312,3,none⟩) (by first|(rw [add_block];exact hn313_3)|(show (Addr.add _ _).block≠_;rw [add_block];exact hn313_3)|exact hn313_3) (.slice A311_3 ((rd_T26 l0 x17_1).f3).length c311_3)).trans hx313_0;replace hx313_1:=(cell_far (p:=⟨gb312,3,none⟩) (by first|(rw [add_block];exact hn313_3)|(show (Addr.add _ _).block≠_;rw [add_block];exact hn313_3)|exact hn313_3) (.slice A311_3 ((rd_T26 l0 x17_1).f3).length c311_3)).trans hx313_1;replace hx313_2:=(cell_far (p:=⟨gb312,3,none⟩) (by first|(rw [add_block];exact hn313_3)|(show (Addr.add _ _).block≠_;rw [add_block];exact hn313_3)|exact hn313_3) (.slice A311_3 ((rd_T26 l0 x17_1).f3).length c311_3)).trans hx313_2;replace hx313_3:=(cell_far (p:=⟨gb312,3,none⟩) (by first|(rw [add_block];exact hn313_3)|(show (Addr.add _ _).block≠_;rw [add_block];exact hn313_3)|exact hn313_3) (.slice A311_3 ((rd_T26 l0 x17_1).f3).length c311_3)).trans hx313_3;clear hn313_0;clear hn313_1;clear hn313_2;clear hn313_3;replace p313:=eq_true p313;replace q313:=eq_true q313)|((with_reducible refine gate_dst (N:=9) rfl ?_);refine box_event ?hg (N:=9) ?hd (cs:=#[.int .i64 0,.int .i64 0,.string (⟨#[]⟩:ByteArray),.slice none 0 0]) (t:=26) ?hr ?_;(case hd=>rfl);(case hg=>rfl);(case hr=>first|(go_simp;done)|(go_simp;rfl));intro gb314 hg w13 hbox hb;have n_:=ai (Aside0.mk (blk_below (g:=gb312) (o:=.cells #[.int .i64 ((rd_T26 l0 x17_1).f0),.int .i64 ((rd_T26 l0 x17_1).f1),.string ((rd_T26 l0 x17_1).f2),.slice A311_3 ((rd_T26 l0 x17_1).f3).length c311_3] 26 (0,0)) (bmp BK312.out) hb)) <| ai (bq HB hb) <| ai (Aside0.mk (hbox)) <| ai (bz hg HB) <| ai (bz hg HB) <| ai (Aside0.mk ((by rw [hg];exact Nat.ne_of_lt (blk_lt (g:=gb312) (o:=.cells #[.int .i64 ((rd_T26 l0 x17_1).f0),.int .i64 ((rd_T26 l0 x17_1).f1),.string ((rd_T26 l0 x17_1).f2),.slice A311_3 ((rd_T26 l0 x17_1).f3).length c311_3] 26 (0,0)) (bmp BK312.out)):gb312≠gb314))) <| Aside0.mk ((by rw [hg];exact Nat.ne_of_gt (blk_lt (g:=gb312) (o:=.cells #[.int .i64 ((rd_T26 l0 x17_1).f0),.int .i64 ((rd_T26 l0 x17_1).f1),.string ((rd_T26 l0 x17_1).f2),.slice A311_3 ((rd_T26 l0 x17_1).f3).length c311_3] 26 (0,0)) (bmp BK312.out)):gb314≠gb312));clear BK312 HB;obtain ⟨BK312,HB,BK314,GW314,GE314,NB312_314,NB314_312⟩:=n_;clear hb hbox hg;have:=NB314_312.out;have:=NB312_314.out;obtain ⟨h15_0,h15_1,h15_2,h15_3⟩:=kb4 BK314.out;obtain ⟨z15_0,z15_1,z15_2,z15_3⟩:=kz4 BK314.out;obtain ⟨h16_0,h16_1,h16_2,h16_3⟩:=kb4 BK312.out;obtain ⟨z16_0,z16_1,z16_2,z16_3⟩:=kz4 BK312.out)|(go_at_call 9;(with_reducible refine (ih_impl_SameTerm k1 (by have:=HK1.out;omega) ((rd_T26 l0 x17_1).f0) ((rd_T26 l0 x17_1).f1) ((rd_T26 l0 x17_1).f2) _ _ ((rd_T26 l0 x17_1).f3) ((rd_T26 l1 x17_1).f0) ((rd_T26 l1 x17_1).f1) ((rd_T26 l1 x17_1).f2) _ _ ((rd_T26 l1 x17_1).f3) true _ ?side1 ?side2 ?side3 ?side4 A9.out).mono ?_);(case side1=>exact Kd.C_below HR311_3.out (bl HB.out));(case side2=>exact HC311_3.out);(case side3=>exact Kd.C_below HR313_3.out (bl HB.out));(case side4=>exact HC313_3.out);rintro e w17 ⟨rfl,hb⟩;have n_:=ai (bwm BK312 hb) <| ai (Aside0.mk (blk_below (g:=gb314) (o:=.cells #[.int .i64 ((rd_T26 l1 x17_1).f0),.int .i64 ((rd_T26 l1 x17_1).f1),.string ((rd_T26 l1 x17_1).f2),.slice A313_3 ((rd_T26 l1 x17_1).f3).length c313_3] 26 (0,0)) (bmp BK314.out) hb)) <| bq HB hb;clear BK312 BK314 HB;obtain ⟨BK312,BK314,HB⟩:=n_;(try clear hb);(try clear hi)))
         go_roundg k1
         case measure=>have:=HK1.out;omega
         case rel=>exact ⟨(wrap64 (x17_1 + 1)),(cl2),H',⟨by have:=HK1.out;omega⟩,⟨bl HB.out⟩⟩
        ·replace c10:=Bool.eq_false_iff.mpr c10
         subst c10;have H1:(some false) = some r:=by rw [if_neg (show ¬ (false = true) by decide)] at H;exact H
         clear H;have H:=H1;clear H1;obtain rfl:=Option.some.inj H;have p311:0≤(x17_1:Int):=od;have q311:x17_1 < (l0.length:Int):=od;obtain ⟨ad311,A311_3,c311_3,e311,hx311_0,hx311_1,hx311_2,hx311_3,hl311_3,hi311_3⟩:=at_T26 HR0.out x17_1 p311 q311;cases e311;replace hx311_0:=cb HB hx311_0;replace hx311_1:=cb HB hx311_1;replace hx311_2:=cb HB hx311_2;replace hx311_3:=cb HB hx311_3;have HR311_3:=Aside0.mk hi311_3;have HC311_3:=Aside0.mk hl311_3;clear hi311_3 hl311_3;replace p311:=eq_true p311;replace q311:=eq_true q311
         go_wp2_with (first|((with_reducible refine gate_dst (N:=8) rfl ?_);refine box_event ?hg (N:=8) ?hd (cs:=#[.int .i64 0,.int .i64 0,.string (⟨#[]⟩:ByteArray),.slice none 0 0]) (t:=26) ?hr ?_;(case hd=>rfl);(case hg=>rfl);(case hr=>first|(go_simp;done)|(go_simp;rfl));intro gb312 hg w18 hbox hb;have n_:=ai (bq HB hb) <| ai (Aside0.mk (hbox)) <| ai (bz hg HB) <| bz hg HB;clear HB;obtain ⟨HB,BK312,GW312,GE312⟩:=n_;clear hb hbox hg;obtain ⟨h19_0,h19_1,h19_2,h19_3⟩:=kb4 BK312.out;obtain ⟨z19_0,z19_1,z19_2,z19_3⟩:=kz4 BK312.out;have p313:0≤(x17_1:Int):=od;have q313:x17_1 < (l1.length:Int):=od;obtain ⟨ad313,A313_3,c313_3,e313,hx313_0,hx313_1,hx313_2,hx313_3,hl313_3,hi313_3⟩:=at_T26 HR1.out x17_1 p313 q313;cases e313;have hn313_0:ad313.block≠gb312:=Nat.ne_of_lt (Nat.lt_of_lt_of_le (by have:=World.block_lt_of_cell? _ _ hx313_0;first|rwa [add_block] at this|exact this) GW312.out);have hn313_1:ad313.block≠gb312:=Nat.ne_of_lt (Nat.lt_of_lt_of_le (by have:=World.block_lt_of_cell? _ _ hx313_0;first|rwa [add_block] at this|exact this) GW312.out);have hn313_2:ad313.block≠gb312:=Nat.ne_of_lt (Nat.lt_of_lt_of_le (by have:=World.block_lt_of_cell? _ _ hx313_0;first|rwa [add_block] at this|exact this) GW312.out);have hn313_3:ad313.block≠gb312:=Nat.ne_of_lt (Nat.lt_of_lt_of_le (by have:=World.block_lt_of_cell? _ _ hx313_0;first|rwa [add_block] at this|exact this) GW312.out);replace hx313_0:=cb HB hx313_0;replace hx313_1:=cb HB hx313_1;replace hx313_2:=cb HB hx313_2;replace hx313_3:=cb HB hx313_3;have HR313_3:=Aside0.mk hi313_3;have HC313_3:=Aside0.mk hl313_3;clear hi313_3 hl313_3;replace hx313_0:=(cell_far (p:=⟨gb312,0,none⟩) (by first|(rw [add_block];exact hn313_0)|(show (Addr.add _ _).block≠_;rw [add_block];exact hn313_0)|exact hn313_0) (.int .i64 ((rd_T26 l0 x17_1).f0))).trans hx313_0;replace hx313_1:=(cell_far (p:=⟨gb312,0,none⟩) (by first|(rw [add_block];exact hn313_0)|(show (Addr.add _ _).block≠_;rw [add_block];exact hn313_0)|exact hn313_0) (.int .i64 ((rd_T26 l0 x17_1).f0))).trans hx313_1;replace hx313_2:=(cell_far (p:=⟨gb312,0,none⟩) (by first|(rw [add_block];exact hn313_0)|(show (Addr.add _ _).block≠_;rw [add_block];exact hn313_0)|exact hn313_0) (.int .i64 ((rd_T26 l0 x17_1).f0))).trans hx313_2;replace hx313_3:=(cell_far (p:=⟨gb312,0,none⟩) (by first|(rw [add_block];exact hn313_0)|(show (Addr.add _ _).block≠_;rw [add_block];exact hn313_0)|exact hn313_0) (.int .i64 ((rd_T26 l0 x17_1).f0))).trans hx313_3;replace hx313_0:=(cell_far (p:=⟨gb312,1,none⟩) (by first|(rw [add_block];exact hn313_1)|(show (Addr.add _ _).block≠_;rw [add_block];exact hn313_1)|exact hn313_1) (.int .i64 ((rd_T26 l0 x17_1).f1))).trans hx313_0;replace hx313_1:=(cell_far (p:=⟨gb312,1,none⟩) (by first|(rw [add_block];exact hn313_1)|(show (Addr.add _ _).block≠_;rw [add_block];exact hn313_1)|exact hn313_1) (.int .i64 ((rd_T26 l0 x17_1).f1))).trans hx313_1;replace hx313_2:=(cell_far (p:=⟨gb312,1,none⟩) (by first|(rw [add_block];exact hn313_1)|(show (Addr.add _ _).block≠_;rw [add_block];exact hn313_1)|exact hn313_1) (.int .i64 ((rd_T26 l0 x17_1).f1))).trans hx313_2;replace hx313_3:=(cell_far (p:=⟨gb312,1,none⟩) (by first|(rw [add_block];exact hn313_1)|(show (Addr.add _ _).block≠_;rw [add_block];exact hn313_1)|exact hn313_1) (.int .i64 ((rd_T26 l0 x17_1).f1))).trans hx313_3;replace hx313_0:=(cell_far (p:=⟨gb312,2,none⟩) (by first|(rw [add_block];exact hn313_2)|(show (Addr.add _ _).block≠_;rw [add_block];exact hn313_2)|exact hn313_2) (.string ((rd_T26 l0 x17_1).f2))).trans hx313_0;replace hx313_1:=(cell_far (p:=⟨gb312,2,none⟩) (by first|(rw [add_block];exact hn313_2)|(show (Addr.add _ _).block≠_;rw [add_block];exact hn313_2)|exact hn313_2) (.string ((rd_T26 l0 x17_1).f2))).trans hx313_1;replace hx313_2:=(cell_far (p:=⟨gb312,2,none⟩) (by first|(rw [add_block];exact hn313_2)|(show (Addr.add _ _).block≠_;rw [add_block];exact hn313_2)|exact hn313_2) (.string ((rd_T26 l0 x17_1).f2))).trans hx313_2;replace hx313_3:=(cell_far (p:=⟨gb312,2,none⟩) (by first|(rw [add_block];exact hn313_2)|(show (Addr.add _ _).block≠_;rw [add_block];exact hn313_2)|exact hn313_2) (.string ((rd_T26 l0 x17_1).f2))).trans hx313_3;replace hx313_0:=(cell_far (p:=⟨gb312,3,none⟩) (by first|(rw [add_block];exact hn313_3)|(show (Addr.add _ _).block≠_;rw [add_block];exact hn313_3)|exact hn313_3) (.slice A311_3 ((rd_T26 l0 x17_1).f3).length c311_3)).trans hx313_0;replace hx313_1:=(cell_far (p:=⟨gb312,3,none⟩) (by first|(rw [add_block];exact hn313_3)|(show (Addr.add _ _).block≠_;rw [add_block];exact hn313_3)|exact hn313_3) (.slice A311_3 ((rd_T26 l0 x17_1).f3).length c311_3)).trans hx313_1;replace hx313_2:=(cell_far (p:=⟨gb312,3,none⟩) (by first|(rw [add_block];exact hn313_3)|(show (Addr.add _ _).block≠_;rw [add_block];exact hn313_3)|exact hn313_3) (.slice A311_3 ((rd_T26 l0 x17_1).f3).length c311_3)).trans hx313_2;replace hx313_3:=(cell_far (p:=⟨gb312,3,none⟩) (by first|(rw [add_block];exact hn313_3)|(show (Addr.add _ _).block≠_;rw [add_block];exact hn313_3)|exact hn313_3) (.slice A311_3 ((rd_T26 l0 x17_1).f3).length c311_3)).trans hx313_3;clear hn313_0;clear hn313_1;clear hn313_2;clear hn313_3;replace p313:=eq_true p313;replace q313:=eq_true q313)|((with_reducible refine gate_dst (N:=9) rfl ?_);refine box_event ?hg (N:=9) ?hd (cs:=#[.int .i64 0,.int .i64 0,.string (⟨#[]⟩:ByteArray),.slice none 0 0]) (t:=26) ?hr ?_;(case hd=>rfl);(case hg=>rfl);(case hr=>first|(go_simp;done)|(go_simp;rfl));intro gb314 hg w20 hbox hb;have n_:=ai (Aside0.mk (blk_below (g:=gb312) (o:=.cells #[.int .i64 ((rd_T26 l0 x17_1).f0),.int .i64 ((rd_T26 l0 x17_1).f1),.string ((rd_T26 l0 x17_1).f2),.slice A311_3 ((rd_T26 l0 x17_1).f3).length c311_3] 26 (0,0)) (bmp BK312.out) hb)) <| ai (bq HB hb) <| ai (Aside0.mk (hbox)) <| ai (bz hg HB) <| ai (bz hg HB) <| ai (Aside0.mk ((by rw [hg];exact Nat.ne_of_lt (blk_lt (g:=gb312) (o:=.cells #[.int .i64 ((rd_T26 l0 x17_1).f0),.int .i64 ((rd_T26 l0 x17_1).f1),.string ((rd_T26 l0 x17_1).f2),.slice A311_3 ((rd_T26 l0 x17_1).f3).length c311_3] 26 (0,0)) (bmp BK312.out)):gb312≠gb314))) <| Aside0.mk ((by rw [hg];exact Nat.ne_of_gt (blk_lt (g:=gb312) (o:=.cells #[.int .i64 ((rd_T26 l0 x17_1).f0),.int .i64 ((rd_T26 l0 x17_1).f1),.string ((rd_T26 l0 x17_1).f2),.slice A311_3 ((rd_T26 l0 x17_1).f3).length c311_3] 26 (0,0)) (bmp BK312.out)):gb314≠gb312));clear BK312 HB;obtain ⟨BK312,HB,BK314,GW314,GE314,NB312_314,NB314_312⟩:=n_;clear hb hbox hg;have:=NB314_312.out;have:=NB312_314.out;obtain ⟨h22_0,h22_1,h22_2,h22_3⟩:=kb4 BK314.out;obtain ⟨z22_0,z22_1,z22_2,z22_3⟩:=kz4 BK314.out;obtain ⟨h23_0,h23_1,h23_2,h23_3⟩:=kb4 BK312.out;obtain ⟨z23_0,z23_1,z23_2,z23_3⟩:=kz4 BK312.out)|(go_at_call 9;(with_reducible refine (ih_impl_SameTerm k1 (by have:=HK1.out;omega) ((rd_T26 l0 x17_1).f0) ((rd_T26 l0 x17_1).f1) ((rd_T26 l0 x17_1).f2) _ _ ((rd_T26 l0 x17_1).f3) ((rd_T26 l1 x17_1).f0) ((rd_T26 l1 x17_1).f1) ((rd_T26 l1 x17_1).f2) _ _ ((rd_T26 l1 x17_1).f3) false _ ?side1 ?side2 ?side3 ?side4 A9.out).mono ?_);(case side1=>exact Kd.C_below HR311_3.out (bl HB.out));(case side2=>exact HC311_3.out);(case side3=>exact Kd.C_below HR313_3.out (bl HB.out));(case side4=>exact HC313_3.out);rintro e w24 ⟨rfl,hb⟩;have n_:=ai (bwm BK312 hb) <| ai (Aside0.mk (blk_below (g:=gb314) (o:=.cells #[.int .i64 ((rd_T26 l1 x17_1).f0),.int .i64 ((rd_T26 l1 x17_1).f1),.string ((rd_T26 l1 x17_1).f2),.slice A313_3 ((rd_T26 l1 x17_1).f3).length c313_3] 26 (0,0)) (bmp BK314.out) hb)) <| bq HB hb;clear BK312 BK314 HB;obtain ⟨BK312,BK314,HB⟩:=n_;(try clear hb);(try clear hi)))
         go_ret
         exact ⟨cl,bl HB.out⟩
       ·rw [if_neg c8] at H
        exact absurd H (by simp)
      ·rw [if_neg c7] at H
       exact absurd H (by simp)
     ·rw [if_neg c6] at H
      exact absurd H (by simp)
    ·rw [if_neg c5] at H
     have c5b0:decide (x17_1 < (l0.length:Int)) = false:=decide_eq_false c5;clear c5;obtain rfl:=Option.some.inj H
     go_wp2
     go_ret
     exact ⟨cl,bl HB.out⟩
 ·rw [if_neg c4] at H
  have c4b0:((l0.length:Int) == (l1.length:Int)) = false:=beq_eq_false_iff_ne.mpr c4;have c4b1:((l0.length:Int) != (l1.length:Int)) = true:=bne_iff_ne.mpr c4;have c4b2:(l0.length == l1.length) = false:=by first|simpa using c4|(simp at c4 ⊢;omega)
  obtain rfl:=Option.some.inj H
  go_enter Try.func22,Try.ntmps22
  go_wp2
  go_ret
  exact ⟨cl,bl HB.out⟩

/-! ### impl_SameTerm: function 9 -/
set_option maxHeartbeats 8000000 in
set_option maxRecDepth 100000 in
theorem impl_SameTerm.step (k:Nat) (ih_slices_EqualFunc_of_impl_SameTerm:∀ k_,k_ < k → ∀ (A0:Option Addr) (c0:Nat) (l0:List (S26)) (A1:Option Addr) (c1:Nat) (l1:List (S26))  (r:Bool) (w:World) (hr0:Kd.C k26 w A0 l0.length l0) (hc0:l0.length≤c0) (hr1:Kd.C k26 w A1 l1.length l1) (hc1:l1.length≤c1) (h:slices_EqualFunc_of_impl_SameTerm.f k_ l0 l1 = some r),Calls Try.prog 22 #[.slice A0 l0.length c0,.slice A1 l1.length c1,.func (.func 9) #[] #[]] w fun e w'=>e = .returned (.bool r)∧Below w.heap.size w w') (ih_impl_SameTerm:∀ k_,k_ < k → ∀ (a0_0:Int) (a0_1:Int) (a0_2:ByteArray) (A0_3:Option Addr) (c0_3:Nat) (l0_3:List (S26)) (a1_0:Int) (a1_1:Int) (a1_2:ByteArray) (A1_3:Option Addr) (c1_3:Nat) (l1_3:List (S26)) (r:Bool) (w:World) (hr0_3:Kd.C k26 w A0_3 l0_3.length l0_3) (hc0_3:l0_3.length≤c0_3) (hr1_3:Kd.C k26 w A1_3 l1_3.length l1_3) (hc1_3:l1_3.length≤c1_3) (h:impl_SameTerm.f k_ a0_0 a0_1 a0_2 l0_3 a1_0 a1_1 a1_2 l1_3 = some r),Calls Try.prog 9 #[.agg #[.int .i64 a0_0,.int .i64 a0_1,.string a0_2,.slice A0_3 l0_3.length c0_3],.agg #[.int .i64 a1_0,.int .i64 a1_1,.string a1_2,.slice A1_3 l1_3.length c1_3]] w fun e w'=>e = .returned (.bool r)∧Below w.heap.size w w'):∀ (a0_0:Int) (a0_1:Int) (a0_2:ByteArray) (A0_3:Option Addr) (c0_3:Nat) (l0_3:List (S26)) (a1_0:Int) (a1_1:Int) (a1_2:ByteArray) (A1_3:Option Addr) (c1_3:Nat) (l1_3:List (S26)) (r:Bool) (w:World) (hr0_3:Kd.C k26 w A0_3 l0_3.length l0_3) (hc0_3:l0_3.length≤c0_3) (hr1_3:Kd.C k26 w A1_3 l1_3.length l1_3) (hc1_3:l1_3.length≤c1_3) (h:impl_SameTerm.f k a0_0 a0_1 a0_2 l0_3 a1_0 a1_1 a1_2 l1_3 = some r),
  Calls Try.prog 9 #[.agg #[.int .i64 a0_0,.int .i64 a0_1,.string a0_2,.slice A0_3 l0_3.length c0_3],.agg #[.int .i64 a1_0,.int .i64 a1_1,.string a1_2,.slice A1_3 l1_3.length c1_3]] w fun e w'=>e = .returned (.bool r)∧Below w.heap.size w w':=by
 intro a0_0 a0_1 a0_2 A0_3 c0_3 l0_3 a1_0 a1_1 a1_2 A1_3 c1_3 l1_3 r w hr0_3 hc0_3 hr1_3 hc1_3 h
 cases k with
 | zero=>exact absurd h (by simp [impl_SameTerm.f])
 | succ k =>
 simp only [impl_SameTerm.f] at h;have hu26:=Try.underlying26;have HR0_3:=Aside0.mk hr0_3;have HC0_3:=Aside0.mk hc0_3;clear hr0_3 hc0_3;have HR1_3:=Aside0.mk hr1_3;have HC1_3:=Aside0.mk hc1_3;clear hr1_3 hc1_3;have HB:=Aside0.mk (Below.refl w.heap.size w);have H:(if a0_0 = a1_0 then (if a0_1 = a1_1 then (if a0_2.toList = a1_2.toList then ((slices_EqualFunc_of_impl_SameTerm.f k l0_3 l1_3).bind fun t318=>(some t318)) else (some false)) else (some false)) else (some false)) = some r:=h;clear h
 by_cases c3:a0_0 = a1_0
 ·rw [if_pos c3] at H
  have c3b0:(a0_0 == a1_0) = true:=beq_iff_eq.mpr c3;have c3b1:(a0_0 != a1_0) = false:=bne_eq_false_iff_eq.mpr c3;clear c3
  by_cases c4:a0_1 = a1_1
  ·rw [if_pos c4] at H
   have c4b0:(a0_1 == a1_1) = true:=beq_iff_eq.mpr c4;have c4b1:(a0_1 != a1_1) = false:=bne_eq_false_iff_eq.mpr c4;clear c4
   by_cases c5:a0_2.toList = a1_2.toList
   ·rw [if_pos c5] at H
    have c5b0:(a0_2.toList == a1_2.toList) = true:=beq_iff_eq.mpr c5;have c5b1:(a0_2.toList != a1_2.toList) = false:=bne_eq_false_iff_eq.mpr c5;clear c5;replace H:=Option.bind_eq_some_iff.mp H;obtain ⟨t318,A60,H⟩:=H;replace H:(some t318) = some r:=H;have A6:=Aside0.mk A60;clear A60;obtain rfl:=Option.some.inj H
    go_enter Try.func9,Try.ntmps9
    go_wp2_with (first|((with_reducible refine gate_dst (N:=2) rfl ?_);refine box_event ?hg (N:=2) ?hd (cs:=#[.int .i64 a0_0,.int .i64 a0_1,.string a0_2,.slice A0_3 l0_3.length c0_3]) (t:=26) ?hr ?_;(case hd=>rfl);(case hg=>rfl);(case hr=>first|(go_simp;done)|(go_simp;rfl));intro gb316 hg w7 hbox hb;have n_:=ai (bq HB hb) <| ai (Aside0.mk (hbox)) <| ai (bz hg HB) <| bz hg HB;clear HB;obtain ⟨HB,BK316,GW316,GE316⟩:=n_;clear hb hbox hg)|((with_reducible refine gate_dst (N:=3) rfl ?_);refine box_event ?hg (N:=3) ?hd (cs:=#[.int .i64 a1_0,.int .i64 a1_1,.string a1_2,.slice A1_3 l1_3.length c1_3]) (t:=26) ?hr ?_;(case hd=>rfl);(case hg=>rfl);(case hr=>first|(go_simp;done)|(go_simp;rfl));intro gb317 hg w8 hbox hb;have n_:=ai (bw BK316 hb) <| ai (bq HB hb) <| ai (Aside0.mk (hbox)) <| ai (bz hg HB) <| ai (bz hg HB) <| ai (nl hg BK316) <| ng hg BK316;clear BK316 HB;obtain ⟨BK316,HB,BK317,GW317,GE317,NB316_317,NB317_316⟩:=n_;clear hb hbox hg;have:=NB316_317.out;have:=NB317_316.out;obtain ⟨h10_0,h10_1,h10_2,h10_3⟩:=kb4 BK316.out;obtain ⟨z10_0,z10_1,z10_2,z10_3⟩:=kz4 BK316.out;obtain ⟨h11_0,h11_1,h11_2,h11_3⟩:=kb4 BK317.out;obtain ⟨z11_0,z11_1,z11_2,z11_3⟩:=kz4 BK317.out)|(go_at_call 22;(with_reducible refine (ih_slices_EqualFunc_of_impl_SameTerm k (by omega) _ _ l0_3 _ _ l1_3  t318 _ ?side1 ?side2 ?side3 ?side4 A6.out).mono ?_);(case side1=>exact ck (Kd.C_below HR0_3.out HB.out));(case side2=>exact HC0_3.out);(case side3=>exact ck (Kd.C_below HR1_3.out HB.out));(case side4=>exact HC1_3.out);rintro e w12 ⟨rfl,hb⟩;have n_:=ai (bw BK316 hb) <| ai (bw BK317 hb) <| bq HB hb;clear BK316 BK317 HB;obtain ⟨BK316,BK317,HB⟩:=n_;(try clear hb);(try clear hi)))
    go_ret
    exact ⟨cl,bl HB.out⟩
   ·rw [if_neg c5] at H
    have c5b0:(a0_2.toList == a1_2.toList) = false:=beq_eq_false_iff_ne.mpr c5;have c5b1:(a0_2.toList != a1_2.toList) = true:=bne_iff_ne.mpr c5;obtain rfl:=Option.some.inj H
    go_enter Try.func9,Try.ntmps9
    go_wp2_with (first|((with_reducible refine gate_dst (N:=2) rfl ?_);refine box_event ?hg (N:=2) ?hd (cs:=#[.int .i64 a0_0,.int .i64 a0_1,.string a0_2,.slice A0_3 l0_3.length c0_3]) (t:=26) ?hr ?_;(case hd=>rfl);(case hg=>rfl);(case hr=>first|(go_simp;done)|(go_simp;rfl));intro gb316 hg w13 hbox hb;have n_:=ai (bq HB hb) <| ai (Aside0.mk (hbox)) <| ai (bz hg HB) <| bz hg HB;clear HB;obtain ⟨HB,BK316,GW316,GE316⟩:=n_;clear hb hbox hg)|((with_reducible refine gate_dst (N:=3) rfl ?_);refine box_event ?hg (N:=3) ?hd (cs:=#[.int .i64 a1_0,.int .i64 a1_1,.string a1_2,.slice A1_3 l1_3.length c1_3]) (t:=26) ?hr ?_;(case hd=>rfl);(case hg=>rfl);(case hr=>first|(go_simp;done)|(go_simp;rfl));intro gb317 hg w14 hbox hb;have n_:=ai (bw BK316 hb) <| ai (bq HB hb) <| ai (Aside0.mk (hbox)) <| ai (bz hg HB) <| ai (bz hg HB) <| ai (nl hg BK316) <| ng hg BK316;clear BK316 HB;obtain ⟨BK316,HB,BK317,GW317,GE317,NB316_317,NB317_316⟩:=n_;clear hb hbox hg;have:=NB316_317.out;have:=NB317_316.out;obtain ⟨h16_0,h16_1,h16_2,h16_3⟩:=kb4 BK316.out;obtain ⟨z16_0,z16_1,z16_2,z16_3⟩:=kz4 BK316.out;obtain ⟨h17_0,h17_1,h17_2,h17_3⟩:=kb4 BK317.out;obtain ⟨z17_0,z17_1,z17_2,z17_3⟩:=kz4 BK317.out))
    go_ret
    exact ⟨cl,bl HB.out⟩
  ·rw [if_neg c4] at H
   have c4b0:(a0_1 == a1_1) = false:=beq_eq_false_iff_ne.mpr c4;have c4b1:(a0_1 != a1_1) = true:=bne_iff_ne.mpr c4;obtain rfl:=Option.some.inj H
   go_enter Try.func9,Try.ntmps9
   go_wp2_with (first|((with_reducible refine gate_dst (N:=2) rfl ?_);refine box_event ?hg (N:=2) ?hd (cs:=#[.int .i64 a0_0,.int .i64 a0_1,.string a0_2,.slice A0_3 l0_3.length c0_3]) (t:=26) ?hr ?_;(case hd=>rfl);(case hg=>rfl);(case hr=>first|(go_simp;done)|(go_simp;rfl));intro gb316 hg w18 hbox hb;have n_:=ai (bq HB hb) <| ai (Aside0.mk (hbox)) <| ai (bz hg HB) <| bz hg HB;clear HB;obtain ⟨HB,BK316,GW316,GE316⟩:=n_;clear hb hbox hg)|((with_reducible refine gate_dst (N:=3) rfl ?_);refine box_event ?hg (N:=3) ?hd (cs:=#[.int .i64 a1_0,.int .i64 a1_1,.string a1_2,.slice A1_3 l1_3.length c1_3]) (t:=26) ?hr ?_;(case hd=>rfl);(case hg=>rfl);(case hr=>first|(go_simp;done)|(go_simp;rfl));intro gb317 hg w19 hbox hb;have n_:=ai (bw BK316 hb) <| ai (bq HB hb) <| ai (Aside0.mk (hbox)) <| ai (bz hg HB) <| ai (bz hg HB) <| ai (nl hg BK316) <| ng hg BK316;clear BK316 HB;obtain ⟨BK316,HB,BK317,GW317,GE317,NB316_317,NB317_316⟩:=n_;clear hb hbox hg;have:=NB316_317.out;have:=NB317_316.out;obtain ⟨h21_0,h21_1,h21_2,h21_3⟩:=kb4 BK316.out;obtain ⟨z21_0,z21_1,z21_2,z21_3⟩:=kz4 BK316.out;obtain ⟨h22_0,h22_1,h22_2,h22_3⟩:=kb4 BK317.out;obtain ⟨z22_0,z22_1,z22_2,z22_3⟩:=kz4 BK317.out))
   go_ret
   exact ⟨cl,bl HB.out⟩
 ·rw [if_neg c3] at H
  have c3b0:(a0_0 == a1_0) = false:=beq_eq_false_iff_ne.mpr c3;have c3b1:(a0_0 != a1_0) = true:=bne_iff_ne.mpr c3;obtain rfl:=Option.some.inj H
  go_enter Try.func9,Try.ntmps9
  go_wp2_with (first|((with_reducible refine gate_dst (N:=2) rfl ?_);refine box_event ?hg (N:=2) ?hd (cs:=#[.int .i64 a0_0,.int .i64 a0_1,.string a0_2,.slice A0_3 l0_3.length c0_3]) (t:=26) ?hr ?_;(case hd=>rfl);(case hg=>rfl);(case hr=>first|(go_simp;done)|(go_simp;rfl));intro gb316 hg w23 hbox hb;have n_:=ai (bq HB hb) <| ai (Aside0.mk (hbox)) <| ai (bz hg HB) <| bz hg HB;clear HB;obtain ⟨HB,BK316,GW316,GE316⟩:=n_;clear hb hbox hg)|((with_reducible refine gate_dst (N:=3) rfl ?_);refine box_event ?hg (N:=3) ?hd (cs:=#[.int .i64 a1_0,.int .i64 a1_1,.string a1_2,.slice A1_3 l1_3.length c1_3]) (t:=26) ?hr ?_;(case hd=>rfl);(case hg=>rfl);(case hr=>first|(go_simp;done)|(go_simp;rfl));intro gb317 hg w24 hbox hb;have n_:=ai (bw BK316 hb) <| ai (bq HB hb) <| ai (Aside0.mk (hbox)) <| ai (bz hg HB) <| ai (bz hg HB) <| ai (nl hg BK316) <| ng hg BK316;clear BK316 HB;obtain ⟨BK316,HB,BK317,GW317,GE317,NB316_317,NB317_316⟩:=n_;clear hb hbox hg;have:=NB316_317.out;have:=NB317_316.out;obtain ⟨h26_0,h26_1,h26_2,h26_3⟩:=kb4 BK316.out;obtain ⟨z26_0,z26_1,z26_2,z26_3⟩:=kz4 BK316.out;obtain ⟨h27_0,h27_1,h27_2,h27_3⟩:=kb4 BK317.out;obtain ⟨z27_0,z27_1,z27_2,z27_3⟩:=kz4 BK317.out))
  go_ret
  exact ⟨cl,bl HB.out⟩

theorem slices_EqualFunc_of_impl_SameTerm.all (k:Nat):(∀ (A0:Option Addr) (c0:Nat) (l0:List (S26)) (A1:Option Addr) (c1:Nat) (l1:List (S26))  (r:Bool) (w:World) (hr0:Kd.C k26 w A0 l0.length l0) (hc0:l0.length≤c0) (hr1:Kd.C k26 w A1 l1.length l1) (hc1:l1.length≤c1) (h:slices_EqualFunc_of_impl_SameTerm.f k l0 l1 = some r),Calls Try.prog 22 #[.slice A0 l0.length c0,.slice A1 l1.length c1,.func (.func 9) #[] #[]] w fun e w'=>e = .returned (.bool r)∧Below w.heap.size w w')∧(∀ (a0_0:Int) (a0_1:Int) (a0_2:ByteArray) (A0_3:Option Addr) (c0_3:Nat) (l0_3:List (S26)) (a1_0:Int) (a1_1:Int) (a1_2:ByteArray) (A1_3:Option Addr) (c1_3:Nat) (l1_3:List (S26)) (r:Bool) (w:World) (hr0_3:Kd.C k26 w A0_3 l0_3.length l0_3) (hc0_3:l0_3.length≤c0_3) (hr1_3:Kd.C k26 w A1_3 l1_3.length l1_3) (hc1_3:l1_3.length≤c1_3) (h:impl_SameTerm.f k a0_0 a0_1 a0_2 l0_3 a1_0 a1_1 a1_2 l1_3 = some r),Calls Try.prog 9 #[.agg #[.int .i64 a0_0,.int .i64 a0_1,.string a0_2,.slice A0_3 l0_3.length c0_3],.agg #[.int .i64 a1_0,.int .i64 a1_1,.string a1_2,.slice A1_3 l1_3.length c1_3]] w fun e w'=>e = .returned (.bool r)∧Below w.heap.size w w'):=by
 induction k using Nat.strongRecOn with
 | _ k ih =>
 exact ⟨slices_EqualFunc_of_impl_SameTerm.step k (fun k_ h_=>(ih k_ h_).1) (fun k_ h_=>(ih k_ h_).2),impl_SameTerm.step k (fun k_ h_=>(ih k_ h_).1) (fun k_ h_=>(ih k_ h_).2)⟩
theorem slices_EqualFunc_of_impl_SameTerm.calls (k:Nat):∀ (A0:Option Addr) (c0:Nat) (l0:List (S26)) (A1:Option Addr) (c1:Nat) (l1:List (S26))  (r:Bool) (w:World) (hr0:Kd.C k26 w A0 l0.length l0) (hc0:l0.length≤c0) (hr1:Kd.C k26 w A1 l1.length l1) (hc1:l1.length≤c1) (h:slices_EqualFunc_of_impl_SameTerm.f k l0 l1 = some r),Calls Try.prog 22 #[.slice A0 l0.length c0,.slice A1 l1.length c1,.func (.func 9) #[] #[]] w fun e w'=>e = .returned (.bool r)∧Below w.heap.size w w':=(slices_EqualFunc_of_impl_SameTerm.all k).1
theorem impl_SameTerm.calls (k:Nat):∀ (a0_0:Int) (a0_1:Int) (a0_2:ByteArray) (A0_3:Option Addr) (c0_3:Nat) (l0_3:List (S26)) (a1_0:Int) (a1_1:Int) (a1_2:ByteArray) (A1_3:Option Addr) (c1_3:Nat) (l1_3:List (S26)) (r:Bool) (w:World) (hr0_3:Kd.C k26 w A0_3 l0_3.length l0_3) (hc0_3:l0_3.length≤c0_3) (hr1_3:Kd.C k26 w A1_3 l1_3.length l1_3) (hc1_3:l1_3.length≤c1_3) (h:impl_SameTerm.f k a0_0 a0_1 a0_2 l0_3 a1_0 a1_1 a1_2 l1_3 = some r),Calls Try.prog 9 #[.agg #[.int .i64 a0_0,.int .i64 a0_1,.string a0_2,.slice A0_3 l0_3.length c0_3],.agg #[.int .i64 a1_0,.int .i64 a1_1,.string a1_2,.slice A1_3 l1_3.length c1_3]] w fun e w'=>e = .returned (.bool r)∧Below w.heap.size w w':=(slices_EqualFunc_of_impl_SameTerm.all k).2

/-! ### impl_truth: function 27 -/
def impl_truth.f (a0:Bool):Option (Int × Int × ByteArray × (List (S26))):=if a0 = true then (some (2,0,(⟨#[116,114,117,101]⟩:ByteArray),([]:List (S26)))) else (some (2,0,(⟨#[102,97,108,115,101]⟩:ByteArray),([]:List (S26))))
set_option maxHeartbeats 8000000 in
set_option maxRecDepth 100000 in
theorem impl_truth.calls (a0:Bool) (r1:Int) (r2:Int) (r3:ByteArray) (r4:List (S26)) (w:World) (h:impl_truth.f a0 = some (r1,r2,r3,r4)) :
  Calls Try.prog 27 #[.bool a0] w fun e w'=>∃ v3_:Value,e = .returned (.agg #[.int .i64 r1,.int .i64 r2,.string r3,v3_])∧Kd.R k26 26 w' w.heap.size (fun _=>True) v3_ r4∧Below w.heap.size w w':=by
 have hu26:=Try.underlying26;have HB:=Aside0.mk (Below.refl w.heap.size w);have H:(if a0 = true then (some (2,0,(⟨#[116,114,117,101]⟩:ByteArray),([]:List (S26)))) else (some (2,0,(⟨#[102,97,108,115,101]⟩:ByteArray),([]:List (S26))))) = some (r1,r2,r3,r4):=h;clear h
 by_cases c2:a0 = true
 ·subst c2
  have H1:(some (2,0,(⟨#[116,114,117,101]⟩:ByteArray),([]:List (S26)))) = some (r1,r2,r3,r4):=by rw [if_pos rfl] at H;exact H
  clear H;have H:=H1;clear H1;simp only [Option.some.injEq,Prod.mk.injEq] at H;obtain ⟨rfl,rfl,rfl,rfl⟩:=H
  go_enter Try.func27,Try.ntmps27
  go_wp2_with (first|((with_reducible refine gate_dst (N:=2) rfl ?_);refine box_event ?hg (N:=2) ?hd (cs:=#[.int .i64 0,.int .i64 0,.string (⟨#[]⟩:ByteArray),.slice none 0 0]) (t:=26) ?hr ?_;(case hd=>rfl);(case hg=>rfl);(case hr=>first|(go_simp;done)|(go_simp;rfl));intro gb319 hg w3 hbox hb;have n_:=ai (bq HB hb) <| ai (Aside0.mk (hbox)) <| ai (bz hg HB) <| bz hg HB;clear HB;obtain ⟨HB,BK319,GW319,GE319⟩:=n_;clear hb hbox hg;obtain ⟨h4_0,h4_1,h4_2,h4_3⟩:=kb4 BK319.out;obtain ⟨z4_0,z4_1,z4_2,z4_3⟩:=kz4 BK319.out))
  refine bodyPost_ret (results_cell_row rfl _ _ gb319 26 #[.int .i64 2,.int .i64 0,.string (⟨#[116,114,117,101]⟩:ByteArray),.slice none 0 0] (0,0) _ rfl (bmp BK319.out) Try.underlying26 rfl (by kernel_rfl)) rfl ?_
  exact ⟨_,cl,by first|exact Kd.R_nil _ _ _ _ _|exact Kd.N_nil _ _ _ _ _|exact Kd.V_nil _ _ _ _ _|exact Kd.Q_nil _ _ _ _ _|exact Kd.S_nil _ _ _ _ _,bl HB.out⟩
 ·replace c2:=Bool.eq_false_iff.mpr c2
  subst c2;have H1:(some (2,0,(⟨#[102,97,108,115,101]⟩:ByteArray),([]:List (S26)))) = some (r1,r2,r3,r4):=by rw [if_neg (show ¬ (false = true) by decide)] at H;exact H
  clear H;have H:=H1;clear H1;simp only [Option.some.injEq,Prod.mk.injEq] at H;obtain ⟨rfl,rfl,rfl,rfl⟩:=H
  go_enter Try.func27,Try.ntmps27
  go_wp2_with (first|((with_reducible refine gate_dst (N:=2) rfl ?_);refine box_event ?hg (N:=2) ?hd (cs:=#[.int .i64 0,.int .i64 0,.string (⟨#[]⟩:ByteArray),.slice none 0 0]) (t:=26) ?hr ?_;(case hd=>rfl);(case hg=>rfl);(case hr=>first|(go_simp;done)|(go_simp;rfl));intro gb319 hg w5 hbox hb;have n_:=ai (bq HB hb) <| ai (Aside0.mk (hbox)) <| ai (bz hg HB) <| bz hg HB;clear HB;obtain ⟨HB,BK319,GW319,GE319⟩:=n_;clear hb hbox hg;obtain ⟨h6_0,h6_1,h6_2,h6_3⟩:=kb4 BK319.out;obtain ⟨z6_0,z6_1,z6_2,z6_3⟩:=kz4 BK319.out))
  refine bodyPost_ret (results_cell_row rfl _ _ gb319 26 #[.int .i64 2,.int .i64 0,.string (⟨#[102,97,108,115,101]⟩:ByteArray),.slice none 0 0] (0,0) _ rfl (bmp BK319.out) Try.underlying26 rfl (by kernel_rfl)) rfl ?_
  exact ⟨_,cl,by first|exact Kd.R_nil _ _ _ _ _|exact Kd.N_nil _ _ _ _ _|exact Kd.V_nil _ _ _ _ _|exact Kd.Q_nil _ _ _ _ _|exact Kd.S_nil _ _ _ _ _,bl HB.out⟩

/-! ### cmp_isNaN_int: function 48 -/
def cmp_isNaN_int.f (a0:Int):Option (Bool):=some (a0 != a0)
set_option maxHeartbeats 8000000 in
set_option maxRecDepth 100000 in
theorem cmp_isNaN_int.calls (a0:Int) (r:Bool) (w:World) (h:cmp_isNaN_int.f a0 = some r) :
  Calls Try.prog 48 #[.int .i64 a0] w fun e w'=>e = .returned (.bool r)∧Drawn0 w w':=by
 have H:(some (a0 != a0)) = some r:=h;clear h;obtain rfl:=Option.some.inj H
 go_enter Try.func48,Try.ntmps48
 go_wp2
 go_ret
 exact ⟨cl2,by repeat (first|exact Drawn0.refl _|apply Drawn0.step)⟩

/-! ### cmp_Compare_int: function 43 -/
def cmp_Compare_int.f (a0:Int) (a1:Int):Option (Int):=(cmp_isNaN_int.f a0).bind fun t320=>((cmp_isNaN_int.f a1).bind fun t321=>(if t320 = true then (if t321 = true then (some 0) else (some (-1))) else (if t321 = true then (some 1) else (if a0 < a1 then (some (-1)) else (if a0 > a1 then (some 1) else (some 0))))))
set_option maxHeartbeats 8000000 in
set_option maxRecDepth 100000 in
theorem cmp_Compare_int.calls (a0:Int) (a1:Int) (r:Int) (w:World) (h:cmp_Compare_int.f a0 a1 = some r) :
  Calls Try.prog 43 #[.int .i64 a0,.int .i64 a1] w fun e w'=>e = .returned (.int .i64 r)∧Drawn0 w w':=by
 have H:((cmp_isNaN_int.f a0).bind fun t320=>((cmp_isNaN_int.f a1).bind fun t321=>(if t320 = true then (if t321 = true then (some 0) else (some (-1))) else (if t321 = true then (some 1) else (if a0 < a1 then (some (-1)) else (if a0 > a1 then (some 1) else (some 0))))))) = some r:=h;clear h;replace H:=Option.bind_eq_some_iff.mp H;obtain ⟨t320,A30,H⟩:=H;replace H:((cmp_isNaN_int.f a1).bind fun t321=>(if t320 = true then (if t321 = true then (some 0) else (some (-1))) else (if t321 = true then (some 1) else (if a0 < a1 then (some (-1)) else (if a0 > a1 then (some 1) else (some 0)))))) = some r:=H;have A3:=Aside0.mk A30;clear A30;replace H:=Option.bind_eq_some_iff.mp H;obtain ⟨t321,A40,H⟩:=H;replace H:(if t320 = true then (if t321 = true then (some 0) else (some (-1))) else (if t321 = true then (some 1) else (if a0 < a1 then (some (-1)) else (if a0 > a1 then (some 1) else (some 0))))) = some r:=H;have A4:=Aside0.mk A40;clear A40
 by_cases c5:t320 = true
 ·subst c5
  have H1:(if t321 = true then (some 0) else (some (-1))) = some r:=by rw [if_pos rfl] at H;exact H
  clear H;have H:=H1;clear H1
  by_cases c6:t321 = true
  ·subst c6
   have H1:(some 0) = some r:=by rw [if_pos rfl] at H;exact H
   clear H;have H:=H1;clear H1;obtain rfl:=Option.some.inj H
   go_enter Try.func43,Try.ntmps43
   go_wp2_with (first|((with_reducible refine gate_callee (f:=48) rfl ?_);refine goesL_ (some 8) rfl rfl Try.func48 (by kernel_rfl) rfl #[.int .i64 a0] rfl gs ?_;(with_reducible refine (cmp_isNaN_int.calls a0 true _ A3.out).mono ?_);rintro e w' ⟨rfl,⟨nd,rfl⟩⟩;refine ⟨_,rfl,?_⟩)|((with_reducible refine gate_callee (f:=48) rfl ?_);refine goesL_ (some 10) rfl rfl Try.func48 (by kernel_rfl) rfl #[.int .i64 a1] rfl gs ?_;(with_reducible refine (cmp_isNaN_int.calls a1 true _ A4.out).mono ?_);rintro e w' ⟨rfl,⟨nd,rfl⟩⟩;refine ⟨_,rfl,?_⟩))
   go_ret
   exact ⟨cl2,by repeat (first|exact Drawn0.refl _|apply Drawn0.step)⟩
  ·replace c6:=Bool.eq_false_iff.mpr c6
   subst c6;have H1:(some (-1)) = some r:=by rw [if_neg (show ¬ (false = true) by decide)] at H;exact H
   clear H;have H:=H1;clear H1;obtain rfl:=Option.some.inj H
   go_enter Try.func43,Try.ntmps43
   go_wp2_with (first|((with_reducible refine gate_callee (f:=48) rfl ?_);refine goesL_ (some 8) rfl rfl Try.func48 (by kernel_rfl) rfl #[.int .i64 a0] rfl gs ?_;(with_reducible refine (cmp_isNaN_int.calls a0 true _ A3.out).mono ?_);rintro e w' ⟨rfl,⟨nd,rfl⟩⟩;refine ⟨_,rfl,?_⟩)|((with_reducible refine gate_callee (f:=48) rfl ?_);refine goesL_ (some 10) rfl rfl Try.func48 (by kernel_rfl) rfl #[.int .i64 a1] rfl gs ?_;(with_reducible refine (cmp_isNaN_int.calls a1 false _ A4.out).mono ?_);rintro e w' ⟨rfl,⟨nd,rfl⟩⟩;refine ⟨_,rfl,?_⟩))
   go_ret
   exact ⟨cl2,by repeat (first|exact Drawn0.refl _|apply Drawn0.step)⟩
 ·replace c5:=Bool.eq_false_iff.mpr c5
  subst c5;have H1:(if t321 = true then (some 1) else (if a0 < a1 then (some (-1)) else (if a0 > a1 then (some 1) else (some 0)))) = some r:=by rw [if_neg (show ¬ (false = true) by decide)] at H;exact H
  clear H;have H:=H1;clear H1
  by_cases c7:t321 = true
  ·subst c7
   have H1:(some 1) = some r:=by rw [if_pos rfl] at H;exact H
   clear H;have H:=H1;clear H1;obtain rfl:=Option.some.inj H
   go_enter Try.func43,Try.ntmps43
   go_wp2_with (first|((with_reducible refine gate_callee (f:=48) rfl ?_);refine goesL_ (some 8) rfl rfl Try.func48 (by kernel_rfl) rfl #[.int .i64 a0] rfl gs ?_;(with_reducible refine (cmp_isNaN_int.calls a0 false _ A3.out).mono ?_);rintro e w' ⟨rfl,⟨nd,rfl⟩⟩;refine ⟨_,rfl,?_⟩)|((with_reducible refine gate_callee (f:=48) rfl ?_);refine goesL_ (some 10) rfl rfl Try.func48 (by kernel_rfl) rfl #[.int .i64 a1] rfl gs ?_;(with_reducible refine (cmp_isNaN_int.calls a1 true _ A4.out).mono ?_);rintro e w' ⟨rfl,⟨nd,rfl⟩⟩;refine ⟨_,rfl,?_⟩))
   go_ret
   exact ⟨cl2,by repeat (first|exact Drawn0.refl _|apply Drawn0.step)⟩
  ·replace c7:=Bool.eq_false_iff.mpr c7
   subst c7;have H1:(if a0 < a1 then (some (-1)) else (if a0 > a1 then (some 1) else (some 0))) = some r:=by rw [if_neg (show ¬ (false = true) by decide)] at H;exact H
   clear H;have H:=H1;clear H1
   by_cases c8:a0 < a1
   ·rw [if_pos c8] at H
    have c8b0:decide (a0 < a1) = true:=decide_eq_true c8;clear c8;obtain rfl:=Option.some.inj H
    go_enter Try.func43,Try.ntmps43
    go_wp2_with (first|((with_reducible refine gate_callee (f:=48) rfl ?_);refine goesL_ (some 8) rfl rfl Try.func48 (by kernel_rfl) rfl #[.int .i64 a0] rfl gs ?_;(with_reducible refine (cmp_isNaN_int.calls a0 false _ A3.out).mono ?_);rintro e w' ⟨rfl,⟨nd,rfl⟩⟩;refine ⟨_,rfl,?_⟩)|((with_reducible refine gate_callee (f:=48) rfl ?_);refine goesL_ (some 10) rfl rfl Try.func48 (by kernel_rfl) rfl #[.int .i64 a1] rfl gs ?_;(with_reducible refine (cmp_isNaN_int.calls a1 false _ A4.out).mono ?_);rintro e w' ⟨rfl,⟨nd,rfl⟩⟩;refine ⟨_,rfl,?_⟩))
    go_ret
    exact ⟨cl2,by repeat (first|exact Drawn0.refl _|apply Drawn0.step)⟩
   ·rw [if_neg c8] at H
    have c8b0:decide (a0 < a1) = false:=decide_eq_false c8;clear c8
    by_cases c9:a0 > a1
    ·rw [if_pos c9] at H
     have c9b0:decide (a1 < a0) = true:=decide_eq_true c9;clear c9;obtain rfl:=Option.some.inj H
     go_enter Try.func43,Try.ntmps43
     go_wp2_with (first|((with_reducible refine gate_callee (f:=48) rfl ?_);refine goesL_ (some 8) rfl rfl Try.func48 (by kernel_rfl) rfl #[.int .i64 a0] rfl gs ?_;(with_reducible refine (cmp_isNaN_int.calls a0 false _ A3.out).mono ?_);rintro e w' ⟨rfl,⟨nd,rfl⟩⟩;refine ⟨_,rfl,?_⟩)|((with_reducible refine gate_callee (f:=48) rfl ?_);refine goesL_ (some 10) rfl rfl Try.func48 (by kernel_rfl) rfl #[.int .i64 a1] rfl gs ?_;(with_reducible refine (cmp_isNaN_int.calls a1 false _ A4.out).mono ?_);rintro e w' ⟨rfl,⟨nd,rfl⟩⟩;refine ⟨_,rfl,?_⟩))
     go_ret
     exact ⟨cl2,by repeat (first|exact Drawn0.refl _|apply Drawn0.step)⟩
    ·rw [if_neg c9] at H
     have c9b0:decide (a1 < a0) = false:=decide_eq_false c9;clear c9;obtain rfl:=Option.some.inj H
     go_enter Try.func43,Try.ntmps43
     go_wp2_with (first|((with_reducible refine gate_callee (f:=48) rfl ?_);refine goesL_ (some 8) rfl rfl Try.func48 (by kernel_rfl) rfl #[.int .i64 a0] rfl gs ?_;(with_reducible refine (cmp_isNaN_int.calls a0 false _ A3.out).mono ?_);rintro e w' ⟨rfl,⟨nd,rfl⟩⟩;refine ⟨_,rfl,?_⟩)|((with_reducible refine gate_callee (f:=48) rfl ?_);refine goesL_ (some 10) rfl rfl Try.func48 (by kernel_rfl) rfl #[.int .i64 a1] rfl gs ?_;(with_reducible refine (cmp_isNaN_int.calls a1 false _ A4.out).mono ?_);rintro e w' ⟨rfl,⟨nd,rfl⟩⟩;refine ⟨_,rfl,?_⟩))
     go_ret
     exact ⟨cl2,by repeat (first|exact Drawn0.refl _|apply Drawn0.step)⟩

/-! ### cmp_isNaN_string: function 49 -/
def cmp_isNaN_string.f (a0:ByteArray):Option (Bool):=some (a0.toList != a0.toList)
set_option maxHeartbeats 8000000 in
set_option maxRecDepth 100000 in
theorem cmp_isNaN_string.calls (a0:ByteArray) (r:Bool) (w:World) (h:cmp_isNaN_string.f a0 = some r) :
  Calls Try.prog 49 #[.string a0] w fun e w'=>e = .returned (.bool r)∧Drawn0 w w':=by
 have H:(some (a0.toList != a0.toList)) = some r:=h;clear h;obtain rfl:=Option.some.inj H
 go_enter Try.func49,Try.ntmps49
 go_wp2
 go_ret
 exact ⟨cl2,by repeat (first|exact Drawn0.refl _|apply Drawn0.step)⟩

/-! ### cmp_Compare_string: function 44 -/
def cmp_Compare_string.f (a0:ByteArray) (a1:ByteArray):Option (Int):=(cmp_isNaN_string.f a0).bind fun t322=>((cmp_isNaN_string.f a1).bind fun t323=>(if t322 = true then (if t323 = true then (some 0) else (some (-1))) else (if t323 = true then (some 1) else (if (Op.bytesLess a0.toList a1.toList) = true then (some (-1)) else (if (Op.bytesLess a1.toList a0.toList) = true then (some 1) else (some 0))))))
set_option maxHeartbeats 8000000 in
set_option maxRecDepth 100000 in
theorem cmp_Compare_string.calls (a0:ByteArray) (a1:ByteArray) (r:Int) (w:World) (h:cmp_Compare_string.f a0 a1 = some r) :
  Calls Try.prog 44 #[.string a0,.string a1] w fun e w'=>e = .returned (.int .i64 r)∧Drawn0 w w':=by
 have H:((cmp_isNaN_string.f a0).bind fun t322=>((cmp_isNaN_string.f a1).bind fun t323=>(if t322 = true then (if t323 = true then (some 0) else (some (-1))) else (if t323 = true then (some 1) else (if (Op.bytesLess a0.toList a1.toList) = true then (some (-1)) else (if (Op.bytesLess a1.toList a0.toList) = true then (some 1) else (some 0))))))) = some r:=h;clear h;replace H:=Option.bind_eq_some_iff.mp H;obtain ⟨t322,A30,H⟩:=H;replace H:((cmp_isNaN_string.f a1).bind fun t323=>(if t322 = true then (if t323 = true then (some 0) else (some (-1))) else (if t323 = true then (some 1) else (if (Op.bytesLess a0.toList a1.toList) = true then (some (-1)) else (if (Op.bytesLess a1.toList a0.toList) = true then (some 1) else (some 0)))))) = some r:=H;have A3:=Aside0.mk A30;clear A30;replace H:=Option.bind_eq_some_iff.mp H;obtain ⟨t323,A40,H⟩:=H;replace H:(if t322 = true then (if t323 = true then (some 0) else (some (-1))) else (if t323 = true then (some 1) else (if (Op.bytesLess a0.toList a1.toList) = true then (some (-1)) else (if (Op.bytesLess a1.toList a0.toList) = true then (some 1) else (some 0))))) = some r:=H;have A4:=Aside0.mk A40;clear A40
 by_cases c5:t322 = true
 ·subst c5
  have H1:(if t323 = true then (some 0) else (some (-1))) = some r:=by rw [if_pos rfl] at H;exact H
  clear H;have H:=H1;clear H1
  by_cases c6:t323 = true
  ·subst c6
   have H1:(some 0) = some r:=by rw [if_pos rfl] at H;exact H
   clear H;have H:=H1;clear H1;obtain rfl:=Option.some.inj H
   go_enter Try.func44,Try.ntmps44
   go_wp2_with (first|((with_reducible refine gate_callee (f:=49) rfl ?_);refine goesL_ (some 8) rfl rfl Try.func49 (by kernel_rfl) rfl #[.string a0] rfl gs ?_;(with_reducible refine (cmp_isNaN_string.calls a0 true _ A3.out).mono ?_);rintro e w' ⟨rfl,⟨nd,rfl⟩⟩;refine ⟨_,rfl,?_⟩)|((with_reducible refine gate_callee (f:=49) rfl ?_);refine goesL_ (some 10) rfl rfl Try.func49 (by kernel_rfl) rfl #[.string a1] rfl gs ?_;(with_reducible refine (cmp_isNaN_string.calls a1 true _ A4.out).mono ?_);rintro e w' ⟨rfl,⟨nd,rfl⟩⟩;refine ⟨_,rfl,?_⟩))
   go_ret
   exact ⟨cl2,by repeat (first|exact Drawn0.refl _|apply Drawn0.step)⟩
  ·replace c6:=Bool.eq_false_iff.mpr c6
   subst c6;have H1:(some (-1)) = some r:=by rw [if_neg (show ¬ (false = true) by decide)] at H;exact H
   clear H;have H:=H1;clear H1;obtain rfl:=Option.some.inj H
   go_enter Try.func44,Try.ntmps44
   go_wp2_with (first|((with_reducible refine gate_callee (f:=49) rfl ?_);refine goesL_ (some 8) rfl rfl Try.func49 (by kernel_rfl) rfl #[.string a0] rfl gs ?_;(with_reducible refine (cmp_isNaN_string.calls a0 true _ A3.out).mono ?_);rintro e w' ⟨rfl,⟨nd,rfl⟩⟩;refine ⟨_,rfl,?_⟩)|((with_reducible refine gate_callee (f:=49) rfl ?_);refine goesL_ (some 10) rfl rfl Try.func49 (by kernel_rfl) rfl #[.string a1] rfl gs ?_;(with_reducible refine (cmp_isNaN_string.calls a1 false _ A4.out).mono ?_);rintro e w' ⟨rfl,⟨nd,rfl⟩⟩;refine ⟨_,rfl,?_⟩))
   go_ret
   exact ⟨cl2,by repeat (first|exact Drawn0.refl _|apply Drawn0.step)⟩
 ·replace c5:=Bool.eq_false_iff.mpr c5
  subst c5;have H1:(if t323 = true then (some 1) else (if (Op.bytesLess a0.toList a1.toList) = true then (some (-1)) else (if (Op.bytesLess a1.toList a0.toList) = true then (some 1) else (some 0)))) = some r:=by rw [if_neg (show ¬ (false = true) by decide)] at H;exact H
  clear H;have H:=H1;clear H1
  by_cases c7:t323 = true
  ·subst c7
   have H1:(some 1) = some r:=by rw [if_pos rfl] at H;exact H
   clear H;have H:=H1;clear H1;obtain rfl:=Option.some.inj H
   go_enter Try.func44,Try.ntmps44
   go_wp2_with (first|((with_reducible refine gate_callee (f:=49) rfl ?_);refine goesL_ (some 8) rfl rfl Try.func49 (by kernel_rfl) rfl #[.string a0] rfl gs ?_;(with_reducible refine (cmp_isNaN_string.calls a0 false _ A3.out).mono ?_);rintro e w' ⟨rfl,⟨nd,rfl⟩⟩;refine ⟨_,rfl,?_⟩)|((with_reducible refine gate_callee (f:=49) rfl ?_);refine goesL_ (some 10) rfl rfl Try.func49 (by kernel_rfl) rfl #[.string a1] rfl gs ?_;(with_reducible refine (cmp_isNaN_string.calls a1 true _ A4.out).mono ?_);rintro e w' ⟨rfl,⟨nd,rfl⟩⟩;refine ⟨_,rfl,?_⟩))
   go_ret
   exact ⟨cl2,by repeat (first|exact Drawn0.refl _|apply Drawn0.step)⟩
  ·replace c7:=Bool.eq_false_iff.mpr c7
   subst c7;have H1:(if (Op.bytesLess a0.toList a1.toList) = true then (some (-1)) else (if (Op.bytesLess a1.toList a0.toList) = true then (some 1) else (some 0))) = some r:=by rw [if_neg (show ¬ (false = true) by decide)] at H;exact H
   clear H;have H:=H1;clear H1
   by_cases c8:(Op.bytesLess a0.toList a1.toList) = true
   ·rw [if_pos c8] at H
    have c8b0:(Op.bytesLess a0.toList a1.toList) = true:=c8;clear c8;obtain rfl:=Option.some.inj H
    go_enter Try.func44,Try.ntmps44
    go_wp2_with (first|((with_reducible refine gate_callee (f:=49) rfl ?_);refine goesL_ (some 8) rfl rfl Try.func49 (by kernel_rfl) rfl #[.string a0] rfl gs ?_;(with_reducible refine (cmp_isNaN_string.calls a0 false _ A3.out).mono ?_);rintro e w' ⟨rfl,⟨nd,rfl⟩⟩;refine ⟨_,rfl,?_⟩)|((with_reducible refine gate_callee (f:=49) rfl ?_);refine goesL_ (some 10) rfl rfl Try.func49 (by kernel_rfl) rfl #[.string a1] rfl gs ?_;(with_reducible refine (cmp_isNaN_string.calls a1 false _ A4.out).mono ?_);rintro e w' ⟨rfl,⟨nd,rfl⟩⟩;refine ⟨_,rfl,?_⟩))
    go_ret
    exact ⟨cl2,by repeat (first|exact Drawn0.refl _|apply Drawn0.step)⟩
   ·rw [if_neg c8] at H
    have c8b0:(Op.bytesLess a0.toList a1.toList) = false:=by simpa using c8
    clear c8
    by_cases c9:(Op.bytesLess a1.toList a0.toList) = true
    ·rw [if_pos c9] at H
     have c9b0:(Op.bytesLess a1.toList a0.toList) = true:=c9;clear c9;obtain rfl:=Option.some.inj H
     go_enter Try.func44,Try.ntmps44
     go_wp2_with (first|((with_reducible refine gate_callee (f:=49) rfl ?_);refine goesL_ (some 8) rfl rfl Try.func49 (by kernel_rfl) rfl #[.string a0] rfl gs ?_;(with_reducible refine (cmp_isNaN_string.calls a0 false _ A3.out).mono ?_);rintro e w' ⟨rfl,⟨nd,rfl⟩⟩;refine ⟨_,rfl,?_⟩)|((with_reducible refine gate_callee (f:=49) rfl ?_);refine goesL_ (some 10) rfl rfl Try.func49 (by kernel_rfl) rfl #[.string a1] rfl gs ?_;(with_reducible refine (cmp_isNaN_string.calls a1 false _ A4.out).mono ?_);rintro e w' ⟨rfl,⟨nd,rfl⟩⟩;refine ⟨_,rfl,?_⟩))
     go_ret
     exact ⟨cl2,by repeat (first|exact Drawn0.refl _|apply Drawn0.step)⟩
    ·rw [if_neg c9] at H
     have c9b0:(Op.bytesLess a1.toList a0.toList) = false:=by simpa using c9
     clear c9;obtain rfl:=Option.some.inj H
     go_enter Try.func44,Try.ntmps44
     go_wp2_with (first|((with_reducible refine gate_callee (f:=49) rfl ?_);refine goesL_ (some 8) rfl rfl Try.func49 (by kernel_rfl) rfl #[.string a0] rfl gs ?_;(with_reducible refine (cmp_isNaN_string.calls a0 false _ A3.out).mono ?_);rintro e w' ⟨rfl,⟨nd,rfl⟩⟩;refine ⟨_,rfl,?_⟩)|((with_reducible refine gate_callee (f:=49) rfl ?_);refine goesL_ (some 10) rfl rfl Try.func49 (by kernel_rfl) rfl #[.string a1] rfl gs ?_;(with_reducible refine (cmp_isNaN_string.calls a1 false _ A4.out).mono ?_);rintro e w' ⟨rfl,⟨nd,rfl⟩⟩;refine ⟨_,rfl,?_⟩))
     go_ret
     exact ⟨cl2,by repeat (first|exact Drawn0.refl _|apply Drawn0.step)⟩

end Go.Proofs.Ytbdbbgiglojnfaa.QFnOperated
