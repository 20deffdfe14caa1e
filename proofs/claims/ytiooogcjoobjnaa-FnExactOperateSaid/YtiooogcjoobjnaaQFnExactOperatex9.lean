-- Written by a program of this workplace (print2.py) for this claim, over the print's words.
import Derived.Test.YtiooogcjoobjnaaQFnExactOperatex0
namespace Go.Proofs.Ytiooogcjoobjnaa.QFnExactOperate
open Go.RowKit Go.Proofs.YtiooogcjoobjnaaW.PrintWords Go.Proofs.YtiooogcjoobjnaaW.PrintLast Go.Proofs.YtiooogcjoobjnaaW.PrintMore
attribute [local go_sem] binOp_string_gtr max2_int min2_int max_two min_two max_three min_three max_four min_four   -- for this text's walks alone
set_option linter.unusedVariables false
set_option linter.unusedSimpArgs false

mutual
def slices_EqualFunc_of_impl_SameTerm.l0:Nat → List (S28) → List (S28) → Int → Int → Option (Bool)
 | 0,_,_,_,_=>none
 | k + 1,x1,x15,x16,x17=>if x17 < x16 then (if 0≤x17 then (if x17 < (x15.length:Int) then (if x17 < (x1.length:Int) then ((impl_SameTerm.f k ((rd_T28 x15 x17).f0) ((rd_T28 x15 x17).f1) ((rd_T28 x15 x17).f2) ((rd_T28 x15 x17).f3) ((rd_T28 x1 x17).f0) ((rd_T28 x1 x17).f1) ((rd_T28 x1 x17).f2) ((rd_T28 x1 x17).f3)).bind fun t203=>(if t203 = true then (slices_EqualFunc_of_impl_SameTerm.l0 k x1 x15 x16 (wrap64 (x17 + 1))) else (some false))) else (none)) else (none)) else (none)) else (some true)
def slices_EqualFunc_of_impl_SameTerm.f:Nat → List (S28) → List (S28) → Option (Bool)
 | 0,_,_=>none
 | k + 1,l0,l1=>if (l0.length:Int) = (l1.length:Int) then (slices_EqualFunc_of_impl_SameTerm.l0 k l1 l0 (l0.length:Int) 0) else (some false)
def impl_SameTerm.f:Nat → Int → Int → ByteArray → List (S28) → Int → Int → ByteArray → List (S28) → Option (Bool)
 | 0,_,_,_,_,_,_,_,_=>none
 | k + 1,a0_0,a0_1,a0_2,l0_3,a1_0,a1_1,a1_2,l1_3=>if a0_0 = a1_0 then (if a0_1 = a1_1 then (if a0_2.toList = a1_2.toList then ((slices_EqualFunc_of_impl_SameTerm.f k l0_3 l1_3).bind fun t206=>(some t206)) else (some false)) else (some false)) else (some false)
end
theorem slices_EqualFunc_of_impl_SameTerm.mono_g:∀ k,(∀ y0 y1,LeO (slices_EqualFunc_of_impl_SameTerm.f k y0 y1) (slices_EqualFunc_of_impl_SameTerm.f (k + 1) y0 y1))∧(∀ y0 y1 y2 y3,LeO (slices_EqualFunc_of_impl_SameTerm.l0 k y0 y1 y2 y3) (slices_EqualFunc_of_impl_SameTerm.l0 (k + 1) y0 y1 y2 y3))∧(∀ y0 y1 y2 y3 y4 y5 y6 y7,LeO (impl_SameTerm.f k y0 y1 y2 y3 y4 y5 y6 y7) (impl_SameTerm.f (k + 1) y0 y1 y2 y3 y4 y5 y6 y7))
 | 0=>⟨fun _ _ r h=>by simp [slices_EqualFunc_of_impl_SameTerm.f] at h,fun _ _ _ _ r h=>by simp [slices_EqualFunc_of_impl_SameTerm.l0] at h,fun _ _ _ _ _ _ _ _ r h=>by simp [impl_SameTerm.f] at h⟩
 | k + 1=>by
  obtain ⟨ih0,ih1,ih2⟩:=slices_EqualFunc_of_impl_SameTerm.mono_g k
  refine ⟨?_,?_,?_⟩
  ·intro y0 y1
   unfold slices_EqualFunc_of_impl_SameTerm.f
   with_reducible repeat' first|apply ih0|apply ih1|apply ih2|apply LeO.refl|apply LeO.none|apply LeO.ite|refine LeO.bind ?_ (fun _=>?_)
  ·intro y0 y1 y2 y3
   unfold slices_EqualFunc_of_impl_SameTerm.l0
   with_reducible repeat' first|apply ih0|apply ih1|apply ih2|apply LeO.refl|apply LeO.none|apply LeO.ite|refine LeO.bind ?_ (fun _=>?_)
  ·intro y0 y1 y2 y3 y4 y5 y6 y7
   unfold impl_SameTerm.f
   with_reducible repeat' first|apply ih0|apply ih1|apply ih2|apply LeO.refl|apply LeO.none|apply LeO.ite|refine LeO.bind ?_ (fun _=>?_)
theorem slices_EqualFunc_of_impl_SameTerm.mono:∀ a0 a1 k,LeO (slices_EqualFunc_of_impl_SameTerm.f k a0 a1) (slices_EqualFunc_of_impl_SameTerm.f (k + 1) a0 a1):=by
 intro a0 a1 k;obtain ⟨ih0,ih1,ih2⟩:=slices_EqualFunc_of_impl_SameTerm.mono_g k
 exact ih0 a0 a1
theorem impl_SameTerm.mono:∀ a0 a1 a2 a3 a4 a5 a6 a7 k,LeO (impl_SameTerm.f k a0 a1 a2 a3 a4 a5 a6 a7) (impl_SameTerm.f (k + 1) a0 a1 a2 a3 a4 a5 a6 a7):=by
 intro a0 a1 a2 a3 a4 a5 a6 a7 k;obtain ⟨ih0,ih1,ih2⟩:=slices_EqualFunc_of_impl_SameTerm.mono_g k
 exact ih2 a0 a1 a2 a3 a4 a5 a6 a7
/-! ### slices_EqualFunc_of_impl_SameTerm: function 36 -/
set_option maxHeartbeats 8000000 in
set_option maxRecDepth 100000 in
theorem slices_EqualFunc_of_impl_SameTerm.step (k:Nat) (ih_slices_EqualFunc_of_impl_SameTerm:∀ k_,k_ < k → ∀ (A0:Option Addr) (c0:Nat) (l0:List (S28)) (A1:Option Addr) (c1:Nat) (l1:List (S28))  (r:Bool) (w:World) (hr0:Kd.C k28 w A0 l0.length l0) (hc0:l0.length≤c0) (hr1:Kd.C k28 w A1 l1.length l1) (hc1:l1.length≤c1) (h:slices_EqualFunc_of_impl_SameTerm.f k_ l0 l1 = some r),Calls Try.prog 36 #[.slice A0 l0.length c0,.slice A1 l1.length c1,.func (.func 30) #[] #[]] w fun e w'=>e = .returned (.bool r)∧Below w.heap.size w w') (ih_impl_SameTerm:∀ k_,k_ < k → ∀ (a0_0:Int) (a0_1:Int) (a0_2:ByteArray) (A0_3:Option Addr) (c0_3:Nat) (l0_3:List (S28)) (a1_0:Int) (a1_1:Int) (a1_2:ByteArray) (A1_3:Option Addr) (c1_3:Nat) (l1_3:List (S28)) (r:Bool) (w:World) (hr0_3:Kd.C k28 w A0_3 l0_3.length l0_3) (hc0_3:l0_3.length≤c0_3) (hr1_3:Kd.C k28 w A1_3 l1_3.length l1_3) (hc1_3:l1_3.length≤c1_3) (h:impl_SameTerm.f k_ a0_0 a0_1 a0_2 l0_3 a1_0 a1_1 a1_2 l1_3 = some r),Calls Try.prog 30 #[.agg #[.int .i64 a0_0,.int .i64 a0_1,.string a0_2,.slice A0_3 l0_3.length c0_3],.agg #[.int .i64 a1_0,.int .i64 a1_1,.string a1_2,.slice A1_3 l1_3.length c1_3]] w fun e w'=>e = .returned (.bool r)∧Below w.heap.size w w'):∀ (A0:Option Addr) (c0:Nat) (l0:List (S28)) (A1:Option Addr) (c1:Nat) (l1:List (S28))  (r:Bool) (w:World) (hr0:Kd.C k28 w A0 l0.length l0) (hc0:l0.length≤c0) (hr1:Kd.C k28 w A1 l1.length l1) (hc1:l1.length≤c1) (h:slices_EqualFunc_of_impl_SameTerm.f k l0 l1 = some r),
  Calls Try.prog 36 #[.slice A0 l0.length c0,.slice A1 l1.length c1,.func (.func 30) #[] #[]] w fun e w'=>e = .returned (.bool r)∧Below w.heap.size w w':=by
 intro A0 c0 l0 A1 c1 l1 r w hr0 hc0 hr1 hc1 h
 cases k with
 | zero=>exact absurd h (by simp [slices_EqualFunc_of_impl_SameTerm.f])
 | succ k =>
 simp only [slices_EqualFunc_of_impl_SameTerm.f] at h;have hu28:=Try.underlying28;have HR0:=Aside0.mk hr0;have HC0:=Aside0.mk hc0;clear hr0 hc0;have HR1:=Aside0.mk hr1;have HC1:=Aside0.mk hc1;clear hr1 hc1;have HB:=Aside0.mk (Below.refl w.heap.size w);have H:(if (l0.length:Int) = (l1.length:Int) then (slices_EqualFunc_of_impl_SameTerm.l0 k l1 l0 (l0.length:Int) 0) else (some false)) = some r:=h;clear h
 by_cases c4:(l0.length:Int) = (l1.length:Int)
 ·rw [if_pos c4] at H
  have c4b0:((l0.length:Int) == (l1.length:Int)) = true:=beq_iff_eq.mpr c4;have c4b1:((l0.length:Int) != (l1.length:Int)) = false:=bne_eq_false_iff_eq.mpr c4;have c4b2:(l0.length == l1.length) = true:=by first|simpa using c4|(simp at c4 ⊢;omega)
  clear c4;have H':=Aside0.mk H;clear H
  go_enter Try.func36,Try.ntmps36
  go_wp2
  go_loopg [17] k (fun kq v17 w'=>∃ (x17_1:Int),v17 = .int .i64 x17_1∧Aside0 (slices_EqualFunc_of_impl_SameTerm.l0 kq l1 l0 (l0.length:Int) x17_1 = some r)∧Aside0 (kq≤k)∧Aside0 (Below w.heap.size w w'))
  case atStart=>exact ⟨(0),(cl2),H',⟨Nat.le_refl _⟩,⟨bl HB.out⟩⟩
  case round =>
   clear H';(try clear c1);(try clear c4);(try clear c4b0);(try clear c4b1);(try clear c4b2);(try clear HB);obtain ⟨x17_1,rfl,HA,HK1,HB⟩:=hrel
   cases gk with
   | zero=>exact absurd HA.out (by simp [slices_EqualFunc_of_impl_SameTerm.l0])
   | succ k1 =>
    have H:=HA.out;clear HA;simp only [slices_EqualFunc_of_impl_SameTerm.l0] at H
    by_cases c5:x17_1 < (l0.length:Int)
    ·rw [if_pos c5] at H
     have c5b0:decide (x17_1 < (l0.length:Int)) = true:=decide_eq_true c5;clear c5
     by_cases c6:0≤x17_1
     ·rw [if_pos c6] at H
      have c6b0:decide (0≤x17_1) = true:=decide_eq_true c6;clear c6
      by_cases c7:x17_1 < (l0.length:Int)
      ·rw [if_pos c7] at H
       have c7b0:decide (x17_1 < (l0.length:Int)) = true:=decide_eq_true c7;clear c7
       by_cases c8:x17_1 < (l1.length:Int)
       ·rw [if_pos c8] at H
        have c8b0:decide (x17_1 < (l1.length:Int)) = true:=decide_eq_true c8;clear c8;replace H:=Option.bind_eq_some_iff.mp H;obtain ⟨t203,A90,H⟩:=H;replace H:(if t203 = true then (slices_EqualFunc_of_impl_SameTerm.l0 k1 l1 l0 (l0.length:Int) (wrap64 (x17_1 + 1))) else (some false)) = some r:=H;have A9:=Aside0.mk A90;clear A90
        by_cases c10:t203 = true
        ·subst c10
         have H1:(slices_EqualFunc_of_impl_SameTerm.l0 k1 l1 l0 (l0.length:Int) (wrap64 (x17_1 + 1))) = some r:=by rw [if_pos rfl] at H;exact H
         clear H;have H:=H1;clear H1;have H':=Aside0.mk H;clear H;have p199:0≤(x17_1:Int):=od;have q199:x17_1 < (l0.length:Int):=od;obtain ⟨ad199,A199_3,c199_3,e199,hx199_0,hx199_1,hx199_2,hx199_3,hl199_3,hi199_3⟩:=at_T28 HR0.out x17_1 p199 q199;cases e199;replace hx199_0:=cb HB hx199_0;replace hx199_1:=cb HB hx199_1;replace hx199_2:=cb HB hx199_2;replace hx199_3:=cb HB hx199_3;have HR199_3:=Aside0.mk hi199_3;have HC199_3:=Aside0.mk hl199_3;clear hi199_3 hl199_3;replace p199:=eq_true p199;replace q199:=eq_true q199
         go_wp2_with (first|((with_reducible refine gate_dst (N:=8) rfl ?_);refine box_event ?hg (N:=8) ?hd (cs:=#[.int .i64 0,.int .i64 0,.string (⟨#[]⟩:ByteArray),.slice none 0 0]) (t:=28) ?hr ?_;(case hd=>rfl);(case hg=>rfl);(case hr=>first|(go_simp;done)|(go_simp;rfl));intro gb200 hg w11 hbox hb;have n_:=ai (bq HB hb) <| ai (Aside0.mk (hbox)) <| ai (bz hg HB) <| bz hg HB;clear HB;obtain ⟨HB,BK200,GW200,GE200⟩:=n_;clear hb hbox hg;obtain ⟨h12_0,h12_1,h12_2,h12_3⟩:=kb4 BK200.out;obtain ⟨z12_0,z12_1,z12_2,z12_3⟩:=kz4 BK200.out;have p201:0≤(x17_1:Int):=od;have q201:x17_1 < (l1.length:Int):=od;obtain ⟨ad201,A201_3,c201_3,e201,hx201_0,hx201_1,hx201_2,hx201_3,hl201_3,hi201_3⟩:=at_T28 HR1.out x17_1 p201 q201;cases e201;have hn201_0:ad201.block≠gb200:=Nat.ne_of_lt (Nat.lt_of_lt_of_le (by have:=World.block_lt_of_cell? _ _ hx201_0;first|rwa [add_block] at this|exact this) GW200.out);have hn201_1:ad201.block≠gb200:=Nat.ne_of_lt (Nat.lt_of_lt_of_le (by have:=World.block_lt_of_cell? _ _ hx201_0;first|rwa [add_block] at this|exact this) GW200.out);have hn201_2:ad201.block≠gb200:=Nat.ne_of_lt (Nat.lt_of_lt_of_le (by have:=World.block_lt_of_cell? _ _ hx201_0;first|rwa [add_block] at this|exact this) GW200.out);have hn201_3:ad201.block≠gb200:=Nat.ne_of_lt (Nat.lt_of_lt_of_le (by have:=World.block_lt_of_cell? _ _ hx201_0;first|rwa [add_block] at this|exact this) GW200.out);replace hx201_0:=cb HB hx201_0;replace hx201_1:=cb HB hx201_1;replace hx201_2:=cb HB hx201_2;replace hx201_3:=cb HB hx201_3;have HR201_3:=Aside0.mk hi201_3;have HC201_3:=Aside0.mk hl201_3;clear hi201_3 hl201_3;replace hx201_0:=(cell_far (p:=⟨gb200,0,none⟩) (by first|(rw [add_block];exact hn201_0)|(show (Addr.add _ _).block≠_;rw [add_block];exact hn201_0)|exact hn201_0) (.int .i64 ((rd_T28 l0 x17_1).f0))).trans hx201_0;replace hx201_1:=(cell_far (p:=⟨gb200,0,none⟩) (by first|(rw [add_block];exact hn201_0)|(show (Addr.add _ _).block≠_;rw [add_block];exact hn201_0)|exact hn201_0) (.int .i64 ((rd_T28 l0 x17_1).f0))).trans hx201_1;replace hx201_2:=(cell_far (p:=⟨gb200,0,none⟩) (by first|(rw [add_block];exact hn201_0)|(show (Addr.add _ _).block≠_;rw [add_block];exact hn201_0)|exact hn201_0) (.int .i64 ((rd_T28 l0 x17_1).f0))).trans hx201_2;replace hx201_3:=(cell_far (p:=⟨gb200,0,none⟩) (by first|(rw [add_block];exact hn201_0)|(show (Addr.add _ _).block≠_;rw [add_block];exact hn201_0)|exact hn201_0) (.int .i64 ((rd_T28 l0 x17_1).f0))).trans hx201_3;replace hx201_0:=(cell_far (p:=⟨gb200,1,none⟩) (by first|(rw [add_block];exact hn201_1)|(show (Addr.add _ _).block≠_;rw [add_block];exact hn201_1)|exact hn201_1) (.int .i64 ((rd_T28 l0 x17_1).f1))).trans hx201_0;replace hx201_1:=(cell_far (p:=⟨gb200,1,none⟩) (by first|(rw [add_block];exact hn201_1)|(show (Addr.add _ _).block≠_;rw [add_block];exact hn201_1)|exact hn201_1) (.int .i64 ((rd_T28 l0 x17_1).f1))).trans hx201_1;replace hx201_2:=(cell_far (p:=⟨gb200,1,none⟩) (by first|(rw [add_block];exact hn201_1)|(show (Addr.add _ _).block≠_;rw [add_block];exact hn201_1)|exact hn201_1) (.int .i64 ((rd_T28 l0 x17_1).f1))).trans hx201_2;replace hx201_3:=(cell_far (p:=⟨gb200,1,none⟩) (by first|(rw [add_block];exact hn201_1)|(show (Addr.add _ _).block≠_;rw [add_block];exact hn201_1)|exact hn201_1) (.int .i64 ((rd_T28 l0 x17_1).f1))).trans hx201_3;replace hx201_0:=(cell_far (p:=⟨gb200,2,none⟩) (by first|(rw [add_block];exact hn201_2)|(show (Addr.add _ _).block≠_;rw [add_block];exact hn201_2)|exact hn201_2) (.string ((rd_T28 l0 x17_1).f2))).trans hx201_0;replace hx201_1:=(cell_far (p:=⟨gb200,2,none⟩) (by first|(rw [add_block];exact hn201_2)|(show (Addr.add _ _).block≠_;rw [add_block];exact hn201_2)|exact hn201_2) (.string ((rd_T28 l0 x17_1).f2))).trans hx201_1;replace hx201_2:=(cell_far (p:=⟨gb200,2,none⟩) (by first|(rw [add_block];exact hn201_2)|(show (Addr.add _ _).block≠_;rw [add_block];exact hn201_2)|exact hn201_2) (.string ((rd_T28 l0 x17_1).f2))).trans hx201_2;replace hx201_3:=(cell_far (p:=⟨gb200,2,none⟩) (by first|(rw [add_block];exact hn201_2)|(show (Addr.add _ _).block≠_;rw [add_block];exact hn201_2)|exact hn201_2) (.string ((rd_T28 l0 x17_1).f2))).trans hx201_3;replace hx201_0:=(cell_far (p:=⟨gb200,3,none⟩) (by first|(rw [add_block];exact hn201_3)|(show (Addr.add _ _).block≠_;rw [add_block];exact hn201_3)|exact hn201_3) (.slice A199_3 ((rd_T28 l0 x17_1).f3).length c199_3)).trans hx201_0;replace hx201_1:=(cell_far (p:=⟨gb200,3,none⟩) (by first|(rw [add_block];exact hn201_3)|(show (Addr.add _ _).block≠_;rw [add_block];exact hn201_3)|exact hn201_3) (.slice A199_3 ((rd_T28 l0 x17_1).f3).length c199_3)).trans hx201_1;replace hx201_2:=(cell_far (p:=⟨gb200,3,none⟩) (by first|(rw [add_block];exact hn201_3)|(show (Addr.add _ _).block≠_;rw [add_block];exact hn201_3)|exact hn201_3) (.slice A199_3 ((rd_T28 l0 x17_1).f3).length c199_3)).trans hx201_2;replace hx201_3:=(cell_far (p:=⟨gb200,3,none⟩) (by first|(rw [add_block];exact hn201_3)|(show (Addr.add _ _).block≠_;rw [add_block];exact hn201_3)|exact hn201_3) (.slice A199_3 ((rd_T28 l0 x17_1).f3).length c199_3)).trans hx201_3;clear hn201_0;clear hn201_1;clear hn201_2;clear hn201_3;replace p201:=eq_true p201;replace q201:=eq_true q201)|((with_reducible refine gate_dst (N:=9) rfl ?_);refine box_event ?hg (N:=9) ?hd (cs:=#[.int .i64 0,.int .i64 0,.string (⟨#[]⟩:ByteArray),.slice none 0 0]) (t:=28) ?hr ?_;(case hd=>rfl);(case hg=>rfl);(case hr=>first|(go_simp;done)|(go_simp;rfl));intro gb202 hg w13 hbox hb;have n_:=ai (Aside0.mk (blk_below (g:=gb200) (o:=.cells #[.int .i64 ((rd_T28 l0 x17_1).f0),.int .i64 ((rd_T28 l0 x17_1).f1),.string ((rd_T28 l0 x17_1).f2),.slice A199_3 ((rd_T28 l0 x17_1).f3).length c199_3] 28 (0,0)) (bmp BK200.out) hb)) <| ai (bq HB hb) <| ai (Aside0.mk (hbox)) <| ai (bz hg HB) <| ai (bz hg HB) <| ai (Aside0.mk ((by rw [hg];exact Nat.ne_of_lt (blk_lt (g:=gb200) (o:=.cells #[.int .i64 ((rd_T28 l0 x17_1).f0),.int .i64 ((rd_T28 l0 x17_1).f1),.string ((rd_T28 l0 x17_1).f2),.slice A199_3 ((rd_T28 l0 x17_1).f3).length c199_3] 28 (0,0)) (bmp BK200.out)):gb200≠gb202))) <| Aside0.mk ((by rw [hg];exact Nat.ne_of_gt (blk_lt (g:=gb200) (o:=.cells #[.int .i64 ((rd_T28 l0 x17_1).f0),.int .i64 ((rd_T28 l0 x17_1).f1),.string ((rd_T28 l0 x17_1).f2),.slice A199_3 ((rd_T28 l0 x17_1).f3).length c199_3] 28 (0,0)) (bmp BK200.out)):gb202≠gb200));clear BK200 HB;obtain ⟨BK200,HB,BK202,GW202,GE202,NB200_202,NB202_200⟩:=n_;clear hb hbox hg;have:=NB202_200.out;have:=NB200_202.out;obtain ⟨h15_0,h15_1,h15_2,h15_3⟩:=kb4 BK202.out;obtain ⟨z15_0,z15_1,z15_2,z15_3⟩:=kz4 BK202.out;obtain ⟨h16_0,h16_1,h16_2,h16_3⟩:=kb4 BK200.out;obtain ⟨z16_0,z16_1,z16_2,z16_3⟩:=kz4 BK200.out)|(go_at_call 30;(with_reducible refine (ih_impl_SameTerm k1 (by have:=HK1.out;omega) ((rd_T28 l0 x17_1).f0) ((rd_T28 l0 x17_1).f1) ((rd_T28 l0 x17_1).f2) _ _ ((rd_T28 l0 x17_1).f3) ((rd_T28 l1 x17_1).f0) ((rd_T28 l1 x17_1).f1) ((rd_T28 l1 x17_1).f2) _ _ ((rd_T28 l1 x17_1).f3) true _ ?side1 ?side2 ?side3 ?side4 A9.out).mono ?_);(case side1=>exact Kd.C_below HR199_3.out (bl HB.out));(case side2=>exact HC199_3.out);(case side3=>exact Kd.C_below HR201_3.out (bl HB.out));(case side4=>exact HC201_3.out);rintro e w17 ⟨rfl,hb⟩;have n_:=ai (bwm BK200 hb) <| ai (Aside0.mk (blk_below (g:=gb202) (o:=.cells #[.int .i64 ((rd_T28 l1 x17_1).f0),.int .i64 ((rd_T28 l1 x17_1).f1),.string ((rd_T28 l1 x17_1).f2),.slice A201_3 ((rd_T28 l1 x17_1).f3).length c201_3] 28 (0,0)) (bmp BK202.out) hb)) <| bq HB hb;clear BK200 BK202 HB;obtain ⟨BK200,BK202,HB⟩:=n_;(try clear hb);(try clear hi)))
         go_roundg k1
         case measure=>have:=HK1.out;omega
         case rel=>exact ⟨(wrap64 (x17_1 + 1)),(cl2),H',⟨by have:=HK1.out;omega⟩,⟨bl HB.out⟩⟩
        ·replace c10:=Bool.eq_false_iff.mpr c10
         subst c10;have H1:(some false) = some r:=by rw [if_neg (show ¬ (false = true) by decide)] at H;exact H
         clear H;have H:=H1;clear H1;obtain rfl:=Option.some.inj H;have p199:0≤(x17_1:Int):=od;have q199:x17_1 < (l0.length:Int):=od;obtain ⟨ad199,A199_3,c199_3,e199,hx199_0,hx199_1,hx199_2,hx199_3,hl199_3,hi199_3⟩:=at_T28 HR0.out x17_1 p199 q199;cases e199;replace hx199_0:=cb HB hx199_0;replace hx199_1:=cb HB hx199_1;replace hx199_2:=cb HB hx199_2;replace hx199_3:=cb HB hx199_3;have HR199_3:=Aside0.mk hi199_3;have HC199_3:=Aside0.mk hl199_3;clear hi199_3 hl199_3;replace p199:=eq_true p199;replace q199:=eq_true q199
         go_wp2_with (first|((with_reducible refine gate_dst (N:=8) rfl ?_);refine box_event ?hg (N:=8) ?hd (cs:=#[.int .i64 0,.int .i64 0,.string (⟨#[]⟩:ByteArray),.slice none 0 0]) (t:=28) ?hr ?_;(case hd=>rfl);(case hg=>rfl);(case hr=>first|(go_simp;done)|(go_simp;rfl));intro gb200 hg w18 hbox hb;have n_:=ai (bq HB hb) <| ai (Aside0.mk (hbox)) <| ai (bz hg HB) <| bz hg HB;clear HB;obtain ⟨HB,BK200,GW200,GE200⟩:=n_;clear hb hbox hg;obtain ⟨h19_0,h19_1,h19_2,h19_3⟩:=kb4 BK200.out;obtain ⟨z19_0,z19_1,z19_2,z19_3⟩:=kz4 BK200.out;have p201:0≤(x17_1:Int):=od;have q201:x17_1 < (l1.length:Int):=od;obtain ⟨ad201,A201_3,c201_3,e201,hx201_0,hx201_1,hx201_2,hx201_3,hl201_3,hi201_3⟩:=at_T28 HR1.out x17_1 p201 q201;cases e201;have hn201_0:ad201.block≠gb200:=Nat.ne_of_lt (Nat.lt_of_lt_of_le (by have:=World.block_lt_of_cell? _ _ hx201_0;first|rwa [add_block] at this|exact this) GW200.out);have hn201_1:ad201.block≠gb200:=Nat.ne_of_lt (Nat.lt_of_lt_of_le (by have:=World.block_lt_of_cell? _ _ hx201_0;first|rwa [add_block] at this|exact this) GW200.out);have hn201_2:ad201.block≠gb200:=Nat.ne_of_lt (Nat.lt_of_lt_of_le (by have:=World.block_lt_of_cell? _ _ hx201_0;first|rwa [add_block] at this|exact this) GW200.out);have hn201_3:ad201.block≠gb200:=Nat.ne_of_lt (Nat.lt_of_lt_of_le (by have:=World.block_lt_of_cell? _ _ hx201_0;first|rwa [add_block] at this|exact this) GW200.out);replace hx201_0:=cb HB hx201_0;replace hx201_1:=cb HB hx201_1;replace hx201_2:=cb HB hx201_2;replace hx201_3:=cb HB hx201_3;have HR201_3:=Aside0.mk hi201_3;have HC201_3:=Aside0.mk hl201_3;clear hi201_3 hl201_3;replace hx201_0:=(cell_far (p:=⟨gb200,0,none⟩) (by first|(rw [add_block];exact hn201_0)|(show (Addr.add _ _).block≠_;rw [add_block];exact hn201_0)|exact hn201_0) (.int .i64 ((rd_T28 l0 x17_1).f0))).trans hx201_0;replace hx201_1:=(cell_far (p:=⟨gb200,0,none⟩) (by first|(rw [add_block];exact hn201_0)|(show (Addr.add _ _).block≠_;rw [add_block];exact hn201_0)|exact hn201_0) (.int .i64 ((rd_T28 l0 x17_1).f0))).trans hx201_1;replace hx201_2:=(cell_far (p:=⟨gb200,0,none⟩) (by first|(rw [add_block];exact hn201_0)|(show (Addr.add _ _).block≠_;rw [add_block];exact hn201_0)|exact hn201_0) (.int .i64 ((rd_T28 l0 x17_1).f0))).trans hx201_2;replace hx201_3:=(cell_far (p:=⟨gb200,0,none⟩) (by first|(rw [add_block];exact hn201_0)|(show (Addr.add _ _).block≠_;rw [add_block];exact hn201_0)|exact hn201_0) (.int .i64 ((rd_T28 l0 x17_1).f0))).trans hx201_3;replace hx201_0:=(cell_far (p:=⟨gb200,1,none⟩) (by first|(rw [add_block];exact hn201_1)|(show (Addr.add _ _).block≠_;rw [add_block];exact hn201_1)|exact hn201_1) (.int .i64 ((rd_T28 l0 x17_1).f1))).trans hx201_0;replace hx201_1:=(cell_far (p:=⟨gb200,1,none⟩) (by first|(rw [add_block];exact hn201_1)|(show (Addr.add _ _).block≠_;rw [add_block];exact hn201_1)|exact hn201_1) (.int .i64 ((rd_T28 l0 x17_1).f1))).trans hx201_1;replace hx201_2:=(cell_far (p:=⟨gb200,1,none⟩) (by first|(rw [add_block];exact hn201_1)|(show (Addr.add _ _).block≠_;rw [add_block];exact hn201_1)|exact hn201_1) (.int .i64 ((rd_T28 l0 x17_1).f1))).trans hx201_2;replace hx201_3:=(cell_far (p:=⟨gb200,1,none⟩) (by first|(rw [add_block];exact hn201_1)|(show (Addr.add _ _).block≠_;rw [add_block];exact hn201_1)|exact hn201_1) (.int .i64 ((rd_T28 l0 x17_1).f1))).trans hx201_3;replace hx201_0:=(cell_far (p:=⟨gb200,2,none⟩) (by first|(rw [add_block];exact hn201_2)|(show (Addr.add _ _).block≠_;rw [add_block];exact hn201_2)|exact hn201_2) (.string ((rd_T28 l0 x17_1).f2))).trans hx201_0;replace hx201_1:=(cell_far (p:=⟨gb200,2,none⟩) (by first|(rw [add_block];exact hn201_2)|(show (Addr.add _ _).block≠_;rw [add_block];exact hn201_2)|exact hn201_2) (.string ((rd_T28 l0 x17_1).f2))).trans hx201_1;replace hx201_2:=(cell_far (p:=⟨gb200,2,none⟩) (by first|(rw [add_block];exact hn201_2)|(show (Addr.add _ _).block≠_;rw [add_block];exact hn201_2)|exact hn201_2) (.string ((rd_T28 l0 x17_1).f2))).trans hx201_2;replace hx201_3:=(cell_far (p:=⟨gb200,2,none⟩) (by first|(rw [add_block];exact hn201_2)|(show (Addr.add _ _).block≠_;rw [add_block];exact hn201_2)|exact hn201_2) (.string ((rd_T28 l0 x17_1).f2))).trans hx201_3;replace hx201_0:=(cell_far (p:=⟨gb200,3,none⟩) (by first|(rw [add_block];exact hn201_3)|(show (Addr.add _ _).block≠_;rw [add_block];exact hn201_3)|exact hn201_3) (.slice A199_3 ((rd_T28 l0 x17_1).f3).length c199_3)).trans hx201_0;replace hx201_1:=(cell_far (p:=⟨gb200,3,none⟩) (by first|(rw [add_block];exact hn201_3)|(show (Addr.add _ _).block≠_;rw [add_block];exact hn201_3)|exact hn201_3) (.slice A199_3 ((rd_T28 l0 x17_1).f3).length c199_3)).trans hx201_1;replace hx201_2:=(cell_far (p:=⟨gb200,3,none⟩) (by first|(rw [add_block];exact hn201_3)|(show (Addr.add _ _).block≠_;rw [add_block];exact hn201_3)|exact hn201_3) (.slice A199_3 ((rd_T28 l0 x17_1).f3).length c199_3)).trans hx201_2;replace hx201_3:=(cell_far (p:=⟨gb200,3,none⟩) (by first|(rw [add_block];exact hn201_3)|(show (Addr.add _ _).block≠_;rw [add_block];exact hn201_3)|exact hn201_3) (.slice A199_3 ((rd_T28 l0 x17_1).f3).length c199_3)).trans hx201_3;clear hn201_0;clear hn201_1;clear hn201_2;clear hn201_3;replace p201:=eq_true p201;replace q201:=eq_true q201)|((with_reducible refine gate_dst (N:=9) rfl ?_);refine box_event ?hg (N:=9) ?hd (cs:=#[.int .i64 0,.int .i64 0,.string (⟨#[]⟩:ByteArray),.slice none 0 0]) (t:=28) ?hr ?_;(case hd=>rfl);(case hg=>rfl);(case hr=>first|(go_simp;done)|(go_simp;rfl));intro gb202 hg w20 hbox hb;have n_:=ai (Aside0.mk (blk_below (g:=gb200) (o:=.cells #[.int .i64 ((rd_T28 l0 x17_1).f0),.int .i64 ((rd_T28 l0 x17_1).f1),.string ((rd_T28 l0 x17_1).f2),.slice A199_3 ((rd_T28 l0 x17_1).f3).length c199_3] 28 (0,0)) (bmp BK200.out) hb)) <| ai (bq HB hb) <| ai (Aside0.mk (hbox)) <| ai (bz hg HB) <| ai (bz hg HB) <| ai (Aside0.mk ((by rw [hg];exact Nat.ne_of_lt (blk_lt (g:=gb200) (o:=.cells #[.int .i64 ((rd_T28 l0 x17_1).f0),.int .i64 ((rd_T28 l0 x17_1).f1),.string ((rd_T28 l0 x17_1).f2),.slice A199_3 ((rd_T28 l0 x17_1).f3).length c199_3] 28 (0,0)) (bmp BK200.out)):gb200≠gb202))) <| Aside0.mk ((by rw [hg];exact Nat.ne_of_gt (blk_lt (g:=gb200) (o:=.cells #[.int .i64 ((rd_T28 l0 x17_1).f0),.int .i64 ((rd_T28 l0 x17_1).f1),.string ((rd_T28 l0 x17_1).f2),.slice A199_3 ((rd_T28 l0 x17_1).f3).length c199_3] 28 (0,0)) (bmp BK200.out)):gb202≠gb200));clear BK200 HB;obtain ⟨BK200,HB,BK202,GW202,GE202,NB200_202,NB202_200⟩:=n_;clear hb hbox hg;have:=NB202_200.out;have:=NB200_202.out;obtain ⟨h22_0,h22_1,h22_2,h22_3⟩:=kb4 BK202.out;obtain ⟨z22_0,z22_1,z22_2,z22_3⟩:=kz4 BK202.out;obtain ⟨h23_0,h23_1,h23_2,h23_3⟩:=kb4 BK200.out;obtain ⟨z23_0,z23_1,z23_2,z23_3⟩:=kz4 BK200.out)|(go_at_call 30;(with_reducible refine (ih_impl_SameTerm k1 (by have:=HK1.out;omega) ((rd_T28 l0 x17_1).f0) ((rd_T28 l0 x17_1).f1) ((rd_T28 l0 x17_1).f2) _ _ ((rd_T28 l0 x17_1).f3) ((rd_T28 l1 x17_1).f0) ((rd_T28 l1 x17_1).f1) ((rd_T28 l1 x17_1).f2) _ _ ((rd_T28 l1 x17_1).f3) false _ ?side1 ?side2 ?side3 ?side4 A9.out).mono ?_);(case side1=>exact Kd.C_below HR199_3.out (bl HB.out));(case side2=>exact HC199_3.out);(case side3=>exact Kd.C_below HR201_3.out (bl HB.out));(case side4=>exact HC201_3.out);rintro e w24 ⟨rfl,hb⟩;have n_:=ai (bwm BK200 hb) <| ai (Aside0.mk (blk_below (g:=gb202) (o:=.cells #[.int .i64 ((rd_T28 l1 x17_1).f0),.int .i64 ((rd_T28 l1 x17_1).f1),.string ((rd_T28 l1 x17_1).f2),.slice A201_3 ((rd_T28 l1 x17_1).f3).length c201_3] 28 (0,0)) (bmp BK202.out) hb)) <| bq HB hb;clear BK200 BK202 HB;obtain ⟨BK200,BK202,HB⟩:=n_;(try clear hb);(try clear hi)))
         go_ret
         exact ⟨cl,bl HB.out⟩
       ·rw [if_neg c8] at H
        exact absurd H (by simp)
      ·rw [if_neg c7] at H
       exact absurd H (by simp)
     ·rw [if_neg c6] at H
      exact absurd H (by simp)
    ·rw [if_neg c5] at H
     have c5b0:decide (x17_1 < (l0.length:Int)) = false:=decide_eq_false c5;clear c5;obtain rfl:=Option.some.inj H
     go_wp2
     go_ret
     exact ⟨cl,bl HB.out⟩
 ·rw [if_neg c4] at H
  have c4b0:((l0.length:Int) == (l1.length:Int)) = false:=beq_eq_false_iff_ne.mpr c4;have c4b1:((l0.length:Int) != (l1.length:Int)) = true:=bne_iff_ne.mpr c4;have c4b2:(l0.length == l1.length) = false:=by first|simpa using c4|(simp at c4 ⊢;omega)
  obtain rfl:=Option.some.inj H
  go_enter Try.func36,Try.ntmps36
  go_wp2
  go_ret
  exact ⟨cl,bl HB.out⟩

/-! ### impl_SameTerm: function 30 -/
set_option maxHeartbeats 8000000 in
set_option maxRecDepth 100000 in
theorem impl_SameTerm.step (k:Nat) (ih_slices_EqualFunc_of_impl_SameTerm:∀ k_,k_ < k → ∀ (A0:Option Addr) (c0:Nat) (l0:List (S28)) (A1:Option Addr) (c1:Nat) (l1:List (S28))  (r:Bool) (w:World) (hr0:Kd.C k28 w A0 l0.length l0) (hc0:l0.length≤c0) (hr1:Kd.C k28 w A1 l1.length l1) (hc1:l1.length≤c1) (h:slices_EqualFunc_of_impl_SameTerm.f k_ l0 l1 = some r),Calls Try.prog 36 #[.slice A0 l0.length c0,.slice A1 l1.length c1,.func (.func 30) #[] #[]] w fun e w'=>e = .returned (.bool r)∧Below w.heap.size w w') (ih_impl_SameTerm:∀ k_,k_ < k → ∀ (a0_0:Int) (a0_1:Int) (a0_2:ByteArray) (A0_3:Option Addr) (c0_3:Nat) (l0_3:List (S28)) (a1_0:Int) (a1_1:Int) (a1_2:ByteArray) (A1_3:Option Addr) (c1_3:Nat) (l1_3:List (S28)) (r:Bool) (w:World) (hr0_3:Kd.C k28 w A0_3 l0_3.length l0_3) (hc0_3:l0_3.length≤c0_3) (hr1_3:Kd.C k28 w A1_3 l1_3.length l1_3) (hc1_3:l1_3.length≤c1_3) (h:impl_SameTerm.f k_ a0_0 a0_1 a0_2 l0_3 a1_0 a1_1 a1_2 l1_3 = some r),Calls Try.prog 30 #[.agg #[.int .i64 a0_0,.int .i64 a0_1,.string a0_2,.slice A0_3 l0_3.length c0_3],.agg #[.int .i64 a1_0,.int .i64 a1_1,.string a1_2,.slice A1_3 l1_3.length c1_3]] w fun e w'=>e = .returned (.bool r)∧Below w.heap.size w w'):∀ (a0_0:Int) (a0_1:Int) (a0_2:ByteArray) (A0_3:Option Addr) (c0_3:Nat) (l0_3:List (S28)) (a1_0:Int) (a1_1:Int) (a1_2:ByteArray) (A1_3:Option Addr) (c1_3:Nat) (l1_3:List (S28)) (r:Bool) (w:World) (hr0_3:Kd.C k28 w A0_3 l0_3.length l0_3) (hc0_3:l0_3.length≤c0_3) (hr1_3:Kd.C k28 w A1_3 l1_3.length l1_3) (hc1_3:l1_3.length≤c1_3) (h:impl_SameTerm.f k a0_0 a0_1 a0_2 l0_3 a1_0 a1_1 a1_2 l1_3 = some r),
  Calls Try.prog 30 #[.agg #[.int .i64 a0_0,.int .i64 a0_1,.string a0_2,.slice A0_3 l0_3.length c0_3],.agg #[.int .i64 a1_0,.int .i64 a1_1,.string a1_2,.slice A1_3 l1_3.length c1_3]] w fun e w'=>e = .returned (.bool r)∧Below w.heap.size w w':=by
 intro a0_0 a0_1 a0_2 A0_3 c0_3 l0_3 a1_0 a1_1 a1_2 A1_3 c1_3 l1_3 r w hr0_3 hc0_3 hr1_3 hc1_3 h
 cases k with
 | zero=>exact absurd h (by simp [impl_SameTerm.f])
 | succ k =>
 simp only [impl_SameTerm.f] at h;have hu28:=Try.underlying28;have HR0_3:=Aside0.mk hr0_3;have HC0_3:=Aside0.mk hc0_3;clear hr0_3 hc0_3;have HR1_3:=Aside0.mk hr1_3;have HC1_3:=Aside0.mk hc1_3;clear hr1_3 hc1_3;have HB:=Aside0.mk (Below.refl w.heap.size w);have H:(if a0_0 = a1_0 then (if a0_1 = a1_1 then (if a0_2.toList = a1_2.toList then ((slices_EqualFunc_of_impl_SameTerm.f k l0_3 l1_3).bind fun t206=>(some t206)) else (some false)) else (some false)) else (some false)) = some r:=h;clear h
 by_cases c3:a0_0 = a1_0
 ·rw [if_pos c3] at H
  have c3b0:(a0_0 == a1_0) = true:=beq_iff_eq.mpr c3;have c3b1:(a0_0 != a1_0) = false:=bne_eq_false_iff_eq.mpr c3;clear c3
  by_cases c4:a0_1 = a1_1
  ·rw [if_pos c4] at H
   have c4b0:(a0_1 == a1_1) = true:=beq_iff_eq.mpr c4;have c4b1:(a0_1 != a1_1) = false:=bne_eq_false_iff_eq.mpr c4;clear c4
   by_cases c5:a0_2.toList = a1_2.toList
   ·rw [if_pos c5] at H
    have c5b0:(a0_2.toList == a1_2.toList) = true:=beq_iff_eq.mpr c5;have c5b1:(a0_2.toList != a1_2.toList) = false:=bne_eq_false_iff_eq.mpr c5;clear c5;replace H:=Option.bind_eq_some_iff.mp H;obtain ⟨t206,A60,H⟩:=H;replace H:(some t206) = some r:=H;have A6:=Aside0.mk A60;clear A60;obtain rfl:=Option.some.inj H
    go_enter Try.func30,Try.ntmps30
    go_wp2_with (first|((with_reducible refine gate_dst (N:=2) rfl ?_);refine box_event ?hg (N:=2) ?hd (cs:=#[.int .i64 a0_0,.int .i64 a0_1,.string a0_2,.slice A0_3 l0_3.length c0_3]) (t:=28) ?hr ?_;(case hd=>rfl);(case hg=>rfl);(case hr=>first|(go_simp;done)|(go_simp;rfl));intro gb204 hg w7 hbox hb;have n_:=ai (bq HB hb) <| ai (Aside0.mk (hbox)) <| ai (bz hg HB) <| bz hg HB;clear HB;obtain ⟨HB,BK204,GW204,GE204⟩:=n_;clear hb hbox hg)|((with_reducible refine gate_dst (N:=3) rfl ?_);refine box_event ?hg (N:=3) ?hd (cs:=#[.int .i64 a1_0,.int .i64 a1_1,.string a1_2,.slice A1_3 l1_3.length c1_3]) (t:=28) ?hr ?_;(case hd=>rfl);(case hg=>rfl);(case hr=>first|(go_simp;done)|(go_simp;rfl));intro gb205 hg w8 hbox hb;have n_:=ai (bw BK204 hb) <| ai (bq HB hb) <| ai (Aside0.mk (hbox)) <| ai (bz hg HB) <| ai (bz hg HB) <| ai (nl hg BK204) <| ng hg BK204;clear BK204 HB;obtain ⟨BK204,HB,BK205,GW205,GE205,NB204_205,NB205_204⟩:=n_;clear hb hbox hg;have:=NB204_205.out;have:=NB205_204.out;obtain ⟨h10_0,h10_1,h10_2,h10_3⟩:=kb4 BK204.out;obtain ⟨z10_0,z10_1,z10_2,z10_3⟩:=kz4 BK204.out;obtain ⟨h11_0,h11_1,h11_2,h11_3⟩:=kb4 BK205.out;obtain ⟨z11_0,z11_1,z11_2,z11_3⟩:=kz4 BK205.out)|(go_at_call 36;(with_reducible refine (ih_slices_EqualFunc_of_impl_SameTerm k (by omega) _ _ l0_3 _ _ l1_3  t206 _ ?side1 ?side2 ?side3 ?side4 A6.out).mono ?_);(case side1=>exact ck (Kd.C_below HR0_3.out HB.out));(case side2=>exact HC0_3.out);(case side3=>exact ck (Kd.C_below HR1_3.out HB.out));(case side4=>exact HC1_3.out);rintro e w12 ⟨rfl,hb⟩;have n_:=ai (bw BK204 hb) <| ai (bw BK205 hb) <| bq HB hb;clear BK204 BK205 HB;obtain ⟨BK204,BK205,HB⟩:=n_;(try clear hb);(try clear hi)))
    go_ret
    exact ⟨cl,bl HB.out⟩
   ·rw [if_neg c5] at H
    have c5b0:(a0_2.toList == a1_2.toList) = false:=beq_eq_false_iff_ne.mpr c5;have c5b1:(a0_2.toList != a1_2.toList) = true:=bne_iff_ne.mpr c5;obtain rfl:=Option.some.inj H
    go_enter Try.func30,Try.ntmps30
    go_wp2_with (first|((with_reducible refine gate_dst (N:=2) rfl ?_);refine box_event ?hg (N:=2) ?hd (cs:=#[.int .i64 a0_0,.int .i64 a0_1,.string a0_2,.slice A0_3 l0_3.length c0_3]) (t:=28) ?hr ?_;(case hd=>rfl);(case hg=>rfl);(case hr=>first|(go_simp;done)|(go_simp;rfl));intro gb204 hg w13 hbox hb;have n_:=ai (bq HB hb) <| ai (Aside0.mk (hbox)) <| ai (bz hg HB) <| bz hg HB;clear HB;obtain ⟨HB,BK204,GW204,GE204⟩:=n_;clear hb hbox hg)|((with_reducible refine gate_dst (N:=3) rfl ?_);refine box_event ?hg (N:=3) ?hd (cs:=#[.int .i64 a1_0,.int .i64 a1_1,.string a1_2,.slice A1_3 l1_3.length c1_3]) (t:=28) ?hr ?_;(case hd=>rfl);(case hg=>rfl);(case hr=>first|(go_simp;done)|(go_simp;rfl));intro gb205 hg w14 hbox hb;have n_:=ai (bw BK204 hb) <| ai (bq HB hb) <| ai (Aside0.mk (hbox)) <| ai (bz hg HB) <| ai (bz hg HB) <| ai (nl hg BK204) <| ng hg BK204;clear BK204 HB;obtain ⟨BK204,HB,BK205,GW205,GE205,NB204_205,NB205_204⟩:=n_;clear hb hbox hg;have:=NB204_205.out;have:=NB205_204.out;obtain ⟨h16_0,h16_1,h16_2,h16_3⟩:=kb4 BK204.out;obtain ⟨z16_0,z16_1,z16_2,z16_3⟩:=kz4 BK204.out;obtain ⟨h17_0,h17_1,h17_2,h17_3⟩:=kb4 BK205.out;obtain ⟨z17_0,z17_1,z17_2,z17_3⟩:=kz4 BK205.out))
    go_ret
    exact ⟨cl,bl HB.out⟩
  ·rw [if_neg c4] at H
   have c4b0:(a0_1 == a1_1) = false:=beq_eq_false_iff_ne.mpr c4;have c4b1:(a0_1 != a1_1) = true:=bne_iff_ne.mpr c4;obtain rfl:=Option.some.inj H
   go_enter Try.func30,Try.ntmps30
   go_wp2_with (first|((with_reducible refine gate_dst (N:=2) rfl ?_);refine box_event ?hg (N:=2) ?hd (cs:=#[.int .i64 a0_0,.int .i64 a0_1,.string a0_2,.slice A0_3 l0_3.length c0_3]) (t:=28) ?hr ?_;(case hd=>rfl);(case hg=>rfl);(case hr=>first|(go_simp;done)|(go_simp;rfl));intro gb204 hg w18 hbox hb;have n_:=ai (bq HB hb) <| ai (Aside0.mk (hbox)) <| ai (bz hg HB) <| bz hg HB;clear HB;obtain ⟨HB,BK204,GW204,GE204⟩:=n_;clear hb hbox hg)|((with_reducible refine gate_dst (N:=3) rfl ?_);refine box_event ?hg (N:=3) ?hd (cs:=#[.int .i64 a1_0,.int .i64 a1_1,.string a1_2,.slice A1_3 l1_3.length c1_3]) (t:=28) ?hr ?_;(case hd=>rfl);(case hg=>rfl);(case hr=>first|(go_simp;done)|(go_simp;rfl));intro gb205 hg w19 hbox hb;have n_:=ai (bw BK204 hb) <| ai (bq HB hb) <| ai (Aside0.mk (hbox)) <| ai (bz hg HB) <| ai (bz hg HB) <| ai (nl hg BK204) <| ng hg BK204;clear BK204 HB;obtain ⟨BK204,HB,BK205,GW205,GE205,NB204_205,NB205_204⟩:=n_;clear hb hbox hg;have:=NB204_205.out;have:=NB205_204.out;obtain ⟨h21_0,h21_1,h21_2,h21_3⟩:=kb4 BK204.out;obtain ⟨z21_0,z21_1,z21_2,z21_3⟩:=kz4 BK204.out;obtain ⟨h22_0,h22_1,h22_2,h22_3⟩:=kb4 BK205.out;obtain ⟨z22_0,z22_1,z22_2,z22_3⟩:=kz4 BK205.out))
   go_ret
   exact ⟨cl,bl HB.out⟩
 ·rw [if_neg c3] at H
  have c3b0:(a0_0 == a1_0) = false:=beq_eq_false_iff_ne.mpr c3;have c3b1:(a0_0 != a1_0) = true:=bne_iff_ne.mpr c3;obtain rfl:=Option.some.inj H
  go_enter Try.func30,Try.ntmps30
  go_wp2_with (first|((with_reducible refine gate_dst (N:=2) rfl ?_);refine box_event ?hg (N:=2) ?hd (cs:=#[.int .i64 a0_0,.int .i64 a0_1,.string a0_2,.slice A0_3 l0_3.length c0_3]) (t:=28) ?hr ?_;(case hd=>rfl);(case hg=>rfl);(case hr=>first|(go_simp;done)|(go_simp;rfl));intro gb204 hg w23 hbox hb;have n_:=ai (bq HB hb) <| ai (Aside0.mk (hbox)) <| ai (bz hg HB) <| bz hg HB;clear HB;obtain ⟨HB,BK204,GW204,GE204⟩:=n_;clear hb hbox hg)|((with_reducible refine gate_dst (N:=3) rfl ?_);refine box_event ?hg (N:=3) ?hd (cs:=#[.int .i64 a1_0,.int .i64 a1_1,.string a1_2,.slice A1_3 l1_3.length c1_3]) (t:=28) ?hr ?_;(case hd=>rfl);(case hg=>rfl);(case hr=>first|(go_simp;done)|(go_simp;rfl));intro gb205 hg w24 hbox hb;have n_:=ai (bw BK204 hb) <| ai (bq HB hb) <| ai (Aside0.mk (hbox)) <| ai (bz hg HB) <| ai (bz hg HB) <| ai (nl hg BK204) <| ng hg BK204;clear BK204 HB;obtain ⟨BK204,HB,BK205,GW205,GE205,NB204_205,NB205_204⟩:=n_;clear hb hbox hg;have:=NB204_205.out;have:=NB205_204.out;obtain ⟨h26_0,h26_1,h26_2,h26_3⟩:=kb4 BK204.out;obtain ⟨z26_0,z26_1,z26_2,z26_3⟩:=kz4 BK204.out;obtain ⟨h27_0,h27_1,h27_2,h27_3⟩:=kb4 BK205.out;obtain ⟨z27_0,z27_1,z27_2,z27_3⟩:=kz4 BK205.out))
  go_ret
  exact ⟨cl,bl HB.out⟩

theorem slices_EqualFunc_of_impl_SameTerm.all (k:Nat):(∀ (A0:Option Addr) (c0:Nat) (l0:List (S28)) (A1:Option Addr) (c1:Nat) (l1:List (S28))  (r:Bool) (w:World) (hr0:Kd.C k28 w A0 l0.length l0) (hc0:l0.length≤c0) (hr1:Kd.C k28 w A1 l1.length l1) (hc1:l1.length≤c1) (h:slices_EqualFunc_of_impl_SameTerm.f k l0 l1 = some r),Calls Try.prog 36 #[.slice A0 l0.length c0,.slice A1 l1.length c1,.func (.func 30) #[] #[]] w fun e w'=>e = .returned (.bool r)∧Below w.heap.size w w')∧(∀ (a0_0:Int) (a0_1:Int) (a0_2:ByteArray) (A0_3:Option Addr) (c0_3:Nat) (l0_3:List (S28)) (a1_0:Int) (a1_1:Int) (a1_2:ByteArray) (A1_3:Option Addr) (c1_3:Nat) (l1_3:List (S28)) (r:Bool) (w:World) (hr0_3:Kd.C k28 w A0_3 l0_3.length l0_3) (hc0_3:l0_3.length≤c0_3) (hr1_3:Kd.C k28 w A1_3 l1_3.length l1_3) (hc1_3:l1_3.length≤c1_3) (h:impl_SameTerm.f k a0_0 a0_1 a0_2 l0_3 a1_0 a1_1 a1_2 l1_3 = some r),Calls Try.prog 30 #[.agg #[.int .i64 a0_0,.int .i64 a0_1,.string a0_2,.slice A0_3 l0_3.length c0_3],.agg #[.int .i64 a1_0,.int .i64 a1_1,.string a1_2,.slice A1_3 l1_3.length c1_3]] w fun e w'=>e = .returned (.bool r)∧Below w.heap.size w w'):=by
 induction k using Nat.strongRecOn with
 | _ k ih =>
 exact ⟨slices_EqualFunc_of_impl_SameTerm.step k (fun k_ h_=>(ih k_ h_).1) (fun k_ h_=>(ih k_ h_).2),impl_SameTerm.step k (fun k_ h_=>(ih k_ h_).1) (fun k_ h_=>(ih k_ h_).2)⟩
theorem slices_EqualFunc_of_impl_SameTerm.calls (k:Nat):∀ (A0:Option Addr) (c0:Nat) (l0:List (S28)) (A1:Option Addr) (c1:Nat) (l1:List (S28))  (r:Bool) (w:World) (hr0:Kd.C k28 w A0 l0.length l0) (hc0:l0.length≤c0) (hr1:Kd.C k28 w A1 l1.length l1) (hc1:l1.length≤c1) (h:slices_EqualFunc_of_impl_SameTerm.f k l0 l1 = some r),Calls Try.prog 36 #[.slice A0 l0.length c0,.slice A1 l1.length c1,.func (.func 30) #[] #[]] w fun e w'=>e = .returned (.bool r)∧Below w.heap.size w w':=(slices_EqualFunc_of_impl_SameTerm.all k).1
theorem impl_SameTerm.calls (k:Nat):∀ (a0_0:Int) (a0_1:Int) (a0_2:ByteArray) (A0_3:Option Addr) (c0_3:Nat) (l0_3:List (S28)) (a1_0:Int) (a1_1:Int) (a1_2:ByteArray) (A1_3:Option Addr) (c1_3:Nat) (l1_3:List (S28)) (r:Bool) (w:World) (hr0_3:Kd.C k28 w A0_3 l0_3.length l0_3) (hc0_3:l0_3.length≤c0_3) (hr1_3:Kd.C k28 w A1_3 l1_3.length l1_3) (hc1_3:l1_3.length≤c1_3) (h:impl_SameTerm.f k a0_0 a0_1 a0_2 l0_3 a1_0 a1_1 a1_2 l1_3 = some r),Calls Try.prog 30 #[.agg #[.int .i64 a0_0,.int .i64 a0_1,.string a0_2,.slice A0_3 l0_3.length c0_3],.agg #[.int .i64 a1_0,.int .i64 a1_1,.string a1_2,.slice A1_3 l1_3.length c1_3]] w fun e w'=>e = .returned (.bool r)∧Below w.heap.size w w':=(slices_EqualFunc_of_impl_SameTerm.all k).2

/-! ### cmp_isNaN_int: function 47 -/
def cmp_isNaN_int.f (a0:Int):Option (Bool):=some (a0 != a0)
set_option maxHeartbeats 8000000 in
set_option maxRecDepth 100000 in
theorem cmp_isNaN_int.calls (a0:Int) (r:Bool) (w:World) (h:cmp_isNaN_int.f a0 = some r) :
  Calls Try.prog 47 #[.int .i64 a0] w fun e w'=>e = .returned (.bool r)∧Drawn0 w w':=by
 have H:(some (a0 != a0)) = some r:=h;clear h;obtain rfl:=Option.some.inj H
 go_enter Try.func47,Try.ntmps47
 go_wp2
 go_ret
 exact ⟨cl2,by repeat (first|exact Drawn0.refl _|apply Drawn0.step)⟩

/-! ### cmp_Compare_int: function 42 -/
def cmp_Compare_int.f (a0:Int) (a1:Int):Option (Int):=(cmp_isNaN_int.f a0).bind fun t207=>((cmp_isNaN_int.f a1).bind fun t208=>(if t207 = true then (if t208 = true then (some 0) else (some (-1))) else (if t208 = true then (some 1) else (if a0 < a1 then (some (-1)) else (if a0 > a1 then (some 1) else (some 0))))))
set_option maxHeartbeats 8000000 in
set_option maxRecDepth 100000 in
theorem cmp_Compare_int.calls (a0:Int) (a1:Int) (r:Int) (w:World) (h:cmp_Compare_int.f a0 a1 = some r) :
  Calls Try.prog 42 #[.int .i64 a0,.int .i64 a1] w fun e w'=>e = .returned (.int .i64 r)∧Drawn0 w w':=by
 have H:((cmp_isNaN_int.f a0).bind fun t207=>((cmp_isNaN_int.f a1).bind fun t208=>(if t207 = true then (if t208 = true then (some 0) else (some (-1))) else (if t208 = true then (some 1) else (if a0 < a1 then (some (-1)) else (if a0 > a1 then (some 1) else (some 0))))))) = some r:=h;clear h;replace H:=Option.bind_eq_some_iff.mp H;obtain ⟨t207,A30,H⟩:=H;replace H:((cmp_isNaN_int.f a1).bind fun t208=>(if t207 = true then (if t208 = true then (some 0) else (some (-1))) else (if t208 = true then (some 1) else (if a0 < a1 then (some (-1)) else (if a0 > a1 then (some 1) else (some 0)))))) = some r:=H;have A3:=Aside0.mk A30;clear A30;replace H:=Option.bind_eq_some_iff.mp H;obtain ⟨t208,A40,H⟩:=H;replace H:(if t207 = true then (if t208 = true then (some 0) else (some (-1))) else (if t208 = true then (some 1) else (if a0 < a1 then (some (-1)) else (if a0 > a1 then (some 1) else (some 0))))) = some r:=H;have A4:=Aside0.mk A40;clear A40
 by_cases c5:t207 = true
 ·subst c5
  have H1:(if t208 = true then (some 0) else (some (-1))) = some r:=by rw [if_pos rfl] at H;exact H
  clear H;have H:=H1;clear H1
  by_cases c6:t208 = true
  ·subst c6
   have H1:(some 0) = some r:=by rw [if_pos rfl] at H;exact H
   clear H;have H:=H1;clear H1;obtain rfl:=Option.some.inj H
   go_enter Try.func42,Try.ntmps42
   go_wp2_with (first|((with_reducible refine gate_callee (f:=47) rfl ?_);refine goesL_ (some 8) rfl rfl Try.func47 (by kernel_rfl) rfl #[.int .i64 a0] rfl gs ?_;(with_reducible refine (cmp_isNaN_int.calls a0 true _ A3.out).mono ?_);rintro e w' ⟨rfl,⟨nd,rfl⟩⟩;refine ⟨_,rfl,?_⟩)|((with_reducible refine gate_callee (f:=47) rfl ?_);refine goesL_ (some 10) rfl rfl Try.func47 (by kernel_rfl) rfl #[.int .i64 a1] rfl gs ?_;(with_reducible refine (cmp_isNaN_int.calls a1 true _ A4.out).mono ?_);rintro e w' ⟨rfl,⟨nd,rfl⟩⟩;refine ⟨_,rfl,?_⟩))
   go_ret
   exact ⟨cl2,by repeat (first|exact Drawn0.refl _|apply Drawn0.step)⟩
  ·replace c6:=Bool.eq_false_iff.mpr c6
   subst c6;have H1:(some (-1)) = some r:=by rw [if_neg (show ¬ (false = true) by decide)] at H;exact H
   clear H;have H:=H1;clear H1;obtain rfl:=Option.some.inj H
   go_enter Try.func42,Try.ntmps42
   go_wp2_with (first|((with_reducible refine gate_callee (f:=47) rfl ?_);refine goesL_ (some 8) rfl rfl Try.func47 (by kernel_rfl) rfl #[.int .i64 a0] rfl gs ?_;(with_reducible refine (cmp_isNaN_int.calls a0 true _ A3.out).mono ?_);rintro e w' ⟨rfl,⟨nd,rfl⟩⟩;refine ⟨_,rfl,?_⟩)|((with_reducible refine gate_callee (f:=47) rfl ?_);refine goesL_ (some 10) rfl rfl Try.func47 (by kernel_rfl) rfl #[.int .i64 a1] rfl gs ?_;(with_reducible refine (cmp_isNaN_int.calls a1 false _ A4.out).mono ?_);rintro e w' ⟨rfl,⟨nd,rfl⟩⟩;refine ⟨_,rfl,?_⟩))
   go_ret
   exact ⟨cl2,by repeat (first|exact Drawn0.refl _|apply Drawn0.step)⟩
 ·replace c5:=Bool.eq_false_iff.mpr c5
  subst c5;have H1:(if t208 = true then (some 1) else (if a0 < a1 then (some (-1)) else (if a0 > a1 then (some 1) else (some 0)))) = some r:=by rw [if_neg (show ¬ (false = true) by decide)] at H;exact H
  clear H;have H:=H1;clear H1
  by_cases c7:t208 = true
  ·subst c7
   have H1:(some 1) = some r:=by rw [if_pos rfl] at H;exact H
   clear H;have H:=H1;clear H1;obtain rfl:=Option.some.inj H
   go_enter Try.func42,Try.ntmps42
   go_wp2_with (first|((with_reducible refine gate_callee (f:=47) rfl ?_);refine goesL_ (some 8) rfl rfl Try.func47 (by kernel_rfl) rfl #[.int .i64 a0] rfl gs ?_;(with_reducible refine (cmp_isNaN_int.calls a0 false _ A3.out).mono ?_);rintro e w' ⟨rfl,⟨nd,rfl⟩⟩;refine ⟨_,rfl,?_⟩)|((with_reducible refine gate_callee (f:=47) rfl ?_);refine goesL_ (some 10) rfl rfl Try.func47 (by kernel_rfl) rfl #[.int .i64 a1] rfl gs ?_;(with_reducible refine (cmp_isNaN_int.calls a1 true _ A4.out).mono ?_);rintro e w' ⟨rfl,⟨nd,rfl⟩⟩;refine ⟨_,rfl,?_⟩))
   go_ret
   exact ⟨cl2,by repeat (first|exact Drawn0.refl _|apply Drawn0.step)⟩
  ·replace c7:=Bool.eq_false_iff.mpr c7
   subst c7;have H1:(if a0 < a1 then (some (-1)) else (if a0 > a1 then (some 1) else (some 0))) = some r:=by rw [if_neg (show ¬ (false = true) by decide)] at H;exact H
   clear H;have H:=H1;clear H1
   by_cases c8:a0 < a1
   ·rw [if_pos c8] at H
    have c8b0:decide (a0 < a1) = true:=decide_eq_true c8;clear c8;obtain rfl:=Option.some.inj H
    go_enter Try.func42,Try.ntmps42
    go_wp2_with (first|((with_reducible refine gate_callee (f:=47) rfl ?_);refine goesL_ (some 8) rfl rfl Try.func47 (by kernel_rfl) rfl #[.int .i64 a0] rfl gs ?_;(with_reducible refine (cmp_isNaN_int.calls a0 false _ A3.out).mono ?_);rintro e w' ⟨rfl,⟨nd,rfl⟩⟩;refine ⟨_,rfl,?_⟩)|((with_reducible refine gate_callee (f:=47) rfl ?_);refine goesL_ (some 10) rfl rfl Try.func47 (by kernel_rfl) rfl #[.int .i64 a1] rfl gs ?_;(with_reducible refine (cmp_isNaN_int.calls a1 false _ A4.out).mono ?_);rintro e w' ⟨rfl,⟨nd,rfl⟩⟩;refine ⟨_,rfl,?_⟩))
    go_ret
    exact ⟨cl2,by repeat (first|exact Drawn0.refl _|apply Drawn0.step)⟩
   ·rw [if_neg c8] at H
    have c8b0:decide (a0 < a1) = false:=decide_eq_false c8;clear c8
    by_cases c9:a0 > a1
    ·rw [if_pos c9] at H
     have c9b0:decide (a1 < a0) = true:=decide_eq_true c9;clear c9;obtain rfl:=Option.some.inj H
     go_enter Try.func42,Try.ntmps42
     go_wp2_with (first|((with_reducible refine gate_callee (f:=47) rfl ?_);refine goesL_ (some 8) rfl rfl Try.func47 (by kernel_rfl) rfl #[.int .i64 a0] rfl gs ?_;(with_reducible refine (cmp_isNaN_int.calls a0 false _ A3.out).mono ?_);rintro e w' ⟨rfl,⟨nd,rfl⟩⟩;refine ⟨_,rfl,?_⟩)|((with_reducible refine gate_callee (f:=47) rfl ?_);refine goesL_ (some 10) rfl rfl Try.func47 (by kernel_rfl) rfl #[.int .i64 a1] rfl gs ?_;(with_reducible refine (cmp_isNaN_int.calls a1 false _ A4.out).mono ?_);rintro e w' ⟨rfl,⟨nd,rfl⟩⟩;refine ⟨_,rfl,?_⟩))
     go_ret
     exact ⟨cl2,by repeat (first|exact Drawn0.refl _|apply Drawn0.step)⟩
    ·rw [if_neg c9] at H
     have c9b0:decide (a1 < a0) = false:=decide_eq_false c9;clear c9;obtain rfl:=Option.some.inj H
     go_enter Try.func42,Try.ntmps42
     go_wp2_with (first|((with_reducible refine gate_callee (f:=47) rfl ?_);refine goesL_ (some 8) rfl rfl Try.func47 (by kernel_rfl) rfl #[.int .i64 a0] rfl gs ?_;(with_reducible refine (cmp_isNaN_int.calls a0 false _ A3.out).mono ?_);rintro e w' ⟨rfl,⟨nd,rfl⟩⟩;refine ⟨_,rfl,?_⟩)|((with_reducible refine gate_callee (f:=47) rfl ?_);refine goesL_ (some 10) rfl rfl Try.func47 (by kernel_rfl) rfl #[.int .i64 a1] rfl gs ?_;(with_reducible refine (cmp_isNaN_int.calls a1 false _ A4.out).mono ?_);rintro e w' ⟨rfl,⟨nd,rfl⟩⟩;refine ⟨_,rfl,?_⟩))
     go_ret
     exact ⟨cl2,by repeat (first|exact Drawn0.refl _|apply Drawn0.step)⟩

/-! ### cmp_isNaN_string: function 48 -/
def cmp_isNaN_string.f (a0:ByteArray):Option (Bool):=some (a0.toList != a0.toList)
set_option maxHeartbeats 8000000 in
set_option maxRecDepth 100000 in
theorem cmp_isNaN_string.calls (a0:ByteArray) (r:Bool) (w:World) (h:cmp_isNaN_string.f a0 = some r) :
  Calls Try.prog 48 #[.string a0] w fun e w'=>e = .returned (.bool r)∧Drawn0 w w':=by
 have H:(some (a0.toList != a0.toList)) = some r:=h;clear h;obtain rfl:=Option.some.inj H
 go_enter Try.func48,Try.ntmps48
 go_wp2
 go_ret
 exact ⟨cl2,by repeat (first|exact Drawn0.refl _|apply Drawn0.step)⟩

/-! ### cmp_Compare_string: function 43 -/
def cmp_Compare_string.f (a0:ByteArray) (a1:ByteArray):Option (Int):=(cmp_isNaN_string.f a0).bind fun t209=>((cmp_isNaN_string.f a1).bind fun t210=>(if t209 = true then (if t210 = true then (some 0) else (some (-1))) else (if t210 = true then (some 1) else (if (Op.bytesLess a0.toList a1.toList) = true then (some (-1)) else (if (Op.bytesLess a1.toList a0.toList) = true then (some 1) else (some 0))))))
set_option maxHeartbeats 8000000 in
set_option maxRecDepth 100000 in
theorem cmp_Compare_string.calls (a0:ByteArray) (a1:ByteArray) (r:Int) (w:World) (h:cmp_Compare_string.f a0 a1 = some r) :
  Calls Try.prog 43 #[.string a0,.string a1] w fun e w'=>e = .returned (.int .i64 r)∧Drawn0 w w':=by
 have H:((cmp_isNaN_string.f a0).bind fun t209=>((cmp_isNaN_string.f a1).bind fun t210=>(if t209 = true then (if t210 = true then (some 0) else (some (-1))) else (if t210 = true then (some 1) else (if (Op.bytesLess a0.toList a1.toList) = true then (some (-1)) else (if (Op.bytesLess a1.toList a0.toList) = true then (some 1) else (some 0))))))) = some r:=h;clear h;replace H:=Option.bind_eq_some_iff.mp H;obtain ⟨t209,A30,H⟩:=H;replace H:((cmp_isNaN_string.f a1).bind fun t210=>(if t209 = true then (if t210 = true then (some 0) else (some (-1))) else (if t210 = true then (some 1) else (if (Op.bytesLess a0.toList a1.toList) = true then (some (-1)) else (if (Op.bytesLess a1.toList a0.toList) = true then (some 1) else (some 0)))))) = some r:=H;have A3:=Aside0.mk A30;clear A30;replace H:=Option.bind_eq_some_iff.mp H;obtain ⟨t210,A40,H⟩:=H;replace H:(if t209 = true then (if t210 = true then (some 0) else (some (-1))) else (if t210 = true then (some 1) else (if (Op.bytesLess a0.toList a1.toList) = true then (some (-1)) else (if (Op.bytesLess a1.toList a0.toList) = true then (some 1) else (some 0))))) = some r:=H;have A4:=Aside0.mk A40;clear A40
 by_cases c5:t209 = true
 ·subst c5
  have H1:(if t210 = true then (some 0) else (some (-1))) = some r:=by rw [if_pos rfl] at H;exact H
  clear H;have H:=H1;clear H1
  by_cases c6:t210 = true
  ·subst c6
   have H1:(some 0) = some r:=by rw [if_pos rfl] at H;exact H
   clear H;have H:=H1;clear H1;obtain rfl:=Option.some.inj H
   go_enter Try.func43,Try.ntmps43
   go_wp2_with (first|((with_reducible refine gate_callee (f:=48) rfl ?_);refine goesL_ (some 8) rfl rfl Try.func48 (by kernel_rfl) rfl #[.string a0] rfl gs ?_;(with_reducible refine (cmp_isNaN_string.calls a0 true _ A3.out).mono ?_);rintro e w' ⟨rfl,⟨nd,rfl⟩⟩;refine ⟨_,rfl,?_⟩)|((with_reducible refine gate_callee (f:=48) rfl ?_);refine goesL_ (some 10) rfl rfl Try.func48 (by kernel_rfl) rfl #[.string a1] rfl gs ?_;(with_reducible refine (cmp_isNaN_string.calls a1 true _ A4.out).mono ?_);rintro e w' ⟨rfl,⟨nd,rfl⟩⟩;refine ⟨_,rfl,?_⟩))
   go_ret
   exact ⟨cl2,by repeat (first|exact Drawn0.refl _|apply Drawn0.step)⟩
  ·replace c6:=Bool.eq_false_iff.mpr c6
   subst c6;have H1:(some (-1)) = some r:=by rw [if_neg (show ¬ (false = true) by decide)] at H;exact H
   clear H;have H:=H1;clear H1;obtain rfl:=Option.some.inj H
   go_enter Try.func43,Try.ntmps43
   go_wp2_with (first|((with_reducible refine gate_callee (f:=48) rfl ?_);refine goesL_ (some 8) rfl rfl Try.func48 (by kernel_rfl) rfl #[.string a0] rfl gs ?_;(with_reducible refine (cmp_isNaN_string.calls a0 true _ A3.out).mono ?_);rintro e w' ⟨rfl,⟨nd,rfl⟩⟩;refine ⟨_,rfl,?_⟩)|((with_reducible refine gate_callee (f:=48) rfl ?_);refine goesL_ (some 10) rfl rfl Try.func48 (by kernel_rfl) rfl #[.string a1] rfl gs ?_;(with_reducible refine (cmp_isNaN_string.calls a1 false _ A4.out).mono ?_);rintro e w' ⟨rfl,⟨nd,rfl⟩⟩;refine ⟨_,rfl,?_⟩))
   go_ret
   exact ⟨cl2,by repeat (first|exact Drawn0.refl _|apply Drawn0.step)⟩
 ·replace c5:=Bool.eq_false_iff.mpr c5
  subst c5;have H1:(if t210 = true then (some 1) else (if (Op.bytesLess a0.toList a1.toList) = true then (some (-1)) else (if (Op.bytesLess a1.toList a0.toList) = true then (some 1) else (some 0)))) = some r:=by rw [if_neg (show ¬ (false = true) by decide)] at H;exact H
  clear H;have H:=H1;clear H1
  by_cases c7:t210 = true
  ·subst c7
   have H1:(some 1) = some r:=by rw [if_pos rfl] at H;exact H
   clear H;have H:=H1;clear H1;obtain rfl:=Option.some.inj H
   go_enter Try.func43,Try.ntmps43
   go_wp2_with (first|((with_reducible refine gate_callee (f:=48) rfl ?_);refine goesL_ (some 8) rfl rfl Try.func48 (by kernel_rfl) rfl #[.string a0] rfl gs ?_;(with_reducible refine (cmp_isNaN_string.calls a0 false _ A3.out).mono ?_);rintro e w' ⟨rfl,⟨nd,rfl⟩⟩;refine ⟨_,rfl,?_⟩)|((with_reducible refine gate_callee (f:=48) rfl ?_);refine goesL_ (some 10) rfl rfl Try.func48 (by kernel_rfl) rfl #[.string a1] rfl gs ?_;(with_reducible refine (cmp_isNaN_string.calls a1 true _ A4.out).mono ?_);rintro e w' ⟨rfl,⟨nd,rfl⟩⟩;refine ⟨_,rfl,?_⟩))
   go_ret
   exact ⟨cl2,by repeat (first|exact Drawn0.refl _|apply Drawn0.step)⟩
  ·replace c7:=Bool.eq_false_iff.mpr c7
   subst c7;have H1:(if (Op.bytesLess a0.toList a1.toList) = true then (some (-1)) else (if (Op.bytesLess a1.toList a0.toList) = true then (some 1) else (some 0))) = some r:=by rw [if_neg (show ¬ (false = true) by decide)] at H;exact H
   clear H;have H:=H1;clear H1
   by_cases c8:(Op.bytesLess a0.toList a1.toList) = true
   ·rw [if_pos c8] at H
    have c8b0:(Op.bytesLess a0.toList a1.toList) = true:=c8;clear c8;obtain rfl:=Option.some.inj H
    go_enter Try.func43,Try.ntmps43
    go_wp2_with (first|((with_reducible refine gate_callee (f:=48) rfl ?_);refine goesL_ (some 8) rfl rfl Try.func48 (by kernel_rfl) rfl #[.string a0] rfl gs ?_;(with_reducible refine (cmp_isNaN_string.calls a0 false _ A3.out).mono ?_);rintro e w' ⟨rfl,⟨nd,rfl⟩⟩;refine ⟨_,rfl,?_⟩)|((with_reducible refine gate_callee (f:=48) rfl ?_);refine goesL_ (some 10) rfl rfl Try.func48 (by kernel_rfl) rfl #[.string a1] rfl gs ?_;(with_reducible refine (cmp_isNaN_string.calls a1 false _ A4.out).mono ?_);rintro e w' ⟨rfl,⟨nd,rfl⟩⟩;refine ⟨_,rfl,?_⟩))
    go_ret
    exact ⟨cl2,by repeat (first|exact Drawn0.refl _|apply Drawn0.step)⟩
   ·rw [if_neg c8] at H
    have c8b0:(Op.bytesLess a0.toList a1.toList) = false:=by simpa using c8
    clear c8
    by_cases c9:(Op.bytesLess a1.toList a0.toList) = true
    ·rw [if_pos c9] at H
     have c9b0:(Op.bytesLess a1.toList a0.toList) = true:=c9;clear c9;obtain rfl:=Option.some.inj H
     go_enter Try.func43,Try.ntmps43
     go_wp2_with (first|((with_reducible refine gate_callee (f:=48) rfl ?_);refine goesL_ (some 8) rfl rfl Try.func48 (by kernel_rfl) rfl #[.string a0] rfl gs ?_;(with_reducible refine (cmp_isNaN_string.calls a0 false _ A3.out).mono ?_);rintro e w' ⟨rfl,⟨nd,rfl⟩⟩;refine ⟨_,rfl,?_⟩)|((with_reducible refine gate_callee (f:=48) rfl ?_);refine goesL_ (some 10) rfl rfl Try.func48 (by kernel_rfl) rfl #[.string a1] rfl gs ?_;(with_reducible refine (cmp_isNaN_string.calls a1 false _ A4.out).mono ?_);rintro e w' ⟨rfl,⟨nd,rfl⟩⟩;refine ⟨_,rfl,?_⟩))
     go_ret
     exact ⟨cl2,by repeat (first|exact Drawn0.refl _|apply Drawn0.step)⟩
    ·rw [if_neg c9] at H
     have c9b0:(Op.bytesLess a1.toList a0.toList) = false:=by simpa using c9
     clear c9;obtain rfl:=Option.some.inj H
     go_enter Try.func43,Try.ntmps43
     go_wp2_with (first|((with_reducible refine gate_callee (f:=48) rfl ?_);refine goesL_ (some 8) rfl rfl Try.func48 (by kernel_rfl) rfl #[.string a0] rfl gs ?_;(with_reducible refine (cmp_isNaN_string.calls a0 false _ A3.out).mono ?_);rintro e w' ⟨rfl,⟨nd,rfl⟩⟩;refine ⟨_,rfl,?_⟩)|((with_reducible refine gate_callee (f:=48) rfl ?_);refine goesL_ (some 10) rfl rfl Try.func48 (by kernel_rfl) rfl #[.string a1] rfl gs ?_;(with_reducible refine (cmp_isNaN_string.calls a1 false _ A4.out).mono ?_);rintro e w' ⟨rfl,⟨nd,rfl⟩⟩;refine ⟨_,rfl,?_⟩))
     go_ret
     exact ⟨cl2,by repeat (first|exact Drawn0.refl _|apply Drawn0.step)⟩

end Go.Proofs.Ytiooogcjoobjnaa.QFnExactOperate
