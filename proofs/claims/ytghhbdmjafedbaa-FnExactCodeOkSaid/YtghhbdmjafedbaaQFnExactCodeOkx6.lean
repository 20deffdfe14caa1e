-- Written by a program of this workplace (print2.py) for this claim, over the print's words.
import Derived.Test.YtghhbdmjafedbaaQFnExactCodeOkx0
namespace Go.Proofs.Ytghhbdmjafedbaa.QFnExactCodeOk
open Go.RowKit Go.Proofs.YtghhbdmjafedbaaW.PrintWords Go.Proofs.YtghhbdmjafedbaaW.PrintLast Go.Proofs.YtghhbdmjafedbaaW.PrintMore
attribute [local go_sem] max2_int min2_int max_two min_two max_three min_three max_four min_four   -- for this text's walks alone
set_option linter.unusedVariables false
set_option linter.unusedSimpArgs false

/-! ### spec_l9Takes: function 40 -/
mutual
def spec_l9Takes.j0:Nat → Int → Bool → Int → Int → ByteArray → Int → Option (Int × Int)
 | 0,_,_,_,_,_,_=>none
 | k + 1,x5,x6,x171000,x171001,x171002,x171003=>if x6 = true then (some (0,1)) else (if x5 = 4 then (spec_l9Takes.j1 k x5 (x5 == 4) x171000 x171001 x171002 x171003) else (if x5 = 5 then (spec_l9Takes.j1 k x5 (x5 == 5) x171000 x171001 x171002 x171003) else (if x5 = 6 then (spec_l9Takes.j1 k x5 (x5 == 6) x171000 x171001 x171002 x171003) else (spec_l9Takes.j1 k x5 (x5 == 8) x171000 x171001 x171002 x171003))))
def spec_l9Takes.j1:Nat → Int → Bool → Int → Int → ByteArray → Int → Option (Int × Int)
 | 0,_,_,_,_,_,_=>none
 | k + 1,x5,x10,x171000,x171001,x171002,x171003=>if x10 = true then (some (x171001,1)) else (if x5 = 7 then (some (2,1)) else (if x5 = 9 then (some (1,0)) else (if x5 = 12 then (some (1,0)) else (some (0,0)))))
end
def spec_l9Takes.f (k:Nat) (a0_0:Int) (a0_1:Int) (a0_2:ByteArray) (a0_3:Int):Option (Int × Int):=if a0_0 = 1 then (spec_l9Takes.j0 k a0_0 (a0_0 == 1) a0_0 a0_1 a0_2 a0_3) else (if a0_0 = 2 then (spec_l9Takes.j0 k a0_0 (a0_0 == 2) a0_0 a0_1 a0_2 a0_3) else (spec_l9Takes.j0 k a0_0 (a0_0 == 3) a0_0 a0_1 a0_2 a0_3))
theorem spec_l9Takes.mono_l:∀ k,(∀ y0 y1 y2 y3 y4 y5,LeO (spec_l9Takes.j0 k y0 y1 y2 y3 y4 y5) (spec_l9Takes.j0 (k + 1) y0 y1 y2 y3 y4 y5))∧(∀ y0 y1 y2 y3 y4 y5,LeO (spec_l9Takes.j1 k y0 y1 y2 y3 y4 y5) (spec_l9Takes.j1 (k + 1) y0 y1 y2 y3 y4 y5))
 | 0=>⟨fun _ _ _ _ _ _ r h=>by simp [spec_l9Takes.j0] at h,fun _ _ _ _ _ _ r h=>by simp [spec_l9Takes.j1] at h⟩
 | k + 1=>by
  obtain ⟨ih0,ih1⟩:=spec_l9Takes.mono_l k
  refine ⟨?_,?_⟩
  ·intro y0 y1 y2 y3 y4 y5
   unfold spec_l9Takes.j0
   with_reducible repeat' first|apply ih0|apply ih1|apply LeO.refl|apply LeO.none|apply LeO.ite|refine LeO.bind ?_ (fun _=>?_)
  ·intro y0 y1 y2 y3 y4 y5
   unfold spec_l9Takes.j1
   with_reducible repeat' first|apply ih0|apply ih1|apply LeO.refl|apply LeO.none|apply LeO.ite|refine LeO.bind ?_ (fun _=>?_)
theorem spec_l9Takes.mono:∀ a0 a1 a2 a3 k,LeO (spec_l9Takes.f k a0 a1 a2 a3) (spec_l9Takes.f (k + 1) a0 a1 a2 a3):=by
 intro a0 a1 a2 a3 k;obtain ⟨ih0,ih1⟩:=spec_l9Takes.mono_l k
 unfold spec_l9Takes.f
 with_reducible repeat' first|apply ih0|apply ih1|apply LeO.refl|apply LeO.none|apply LeO.ite|refine LeO.bind ?_ (fun _=>?_)
set_option maxHeartbeats 8000000 in
set_option maxRecDepth 100000 in
theorem spec_l9Takes.calls (k:Nat) (a0_0:Int) (a0_1:Int) (a0_2:ByteArray) (a0_3:Int) (r1:Int) (r2:Int) (w:World) (h:spec_l9Takes.f k a0_0 a0_1 a0_2 a0_3 = some (r1,r2)) :
  Calls Try.prog 40 #[.agg #[.int .i64 a0_0,.int .i64 a0_1,.string a0_2,.int .i64 a0_3]] w fun e w'=>e = .returned (.tuple #[.int .i64 r1,.int .i64 r2])∧Below w.heap.size w w':=by
 have hu64:=Try.underlying64;have HB:=Aside0.mk (Below.refl w.heap.size w);have H:(if a0_0 = 1 then (spec_l9Takes.j0 k a0_0 (a0_0 == 1) a0_0 a0_1 a0_2 a0_3) else (if a0_0 = 2 then (spec_l9Takes.j0 k a0_0 (a0_0 == 2) a0_0 a0_1 a0_2 a0_3) else (spec_l9Takes.j0 k a0_0 (a0_0 == 3) a0_0 a0_1 a0_2 a0_3))) = some (r1,r2):=h;clear h;have HC2:=Aside0.mk H;clear H
 go_enter Try.func40,Try.ntmps40
 go_upto_if 6 with (first|((with_reducible refine gate_dst (N:=1) rfl ?_);refine box_event ?hg (N:=1) ?hd (cs:=#[.int .i64 a0_0,.int .i64 a0_1,.string a0_2,.int .i64 a0_3]) (t:=64) ?hr ?_;(case hd=>rfl);(case hg=>rfl);(case hr=>first|(go_simp;done)|(go_simp;rfl));intro gb170 hg w3 hbox hb;have n_:=ai (bq HB hb) <| ai (Aside0.mk (hbox)) <| ai (bz hg HB) <| bz hg HB;clear HB;obtain ⟨HB,BK170,GW170,GE170⟩:=n_;clear hb hbox hg;obtain ⟨hcz4_0,hcz4_1,hcz4_2,hcz4_3⟩:=kb4 BK170.out;obtain ⟨hfz4_0,hfz4_1,hfz4_2,hfz4_3⟩:=kz4 BK170.out))
 (try simp only [Act.put,List.setIfInBounds_toArray,List.set_cons_zero,List.set_cons_succ])
 go_cut [6] (fun v6 wc=>∃ (kq:Nat) (x6_1:Bool),v6 = .bool x6_1∧Aside0 (spec_l9Takes.j0 kq a0_0 x6_1 a0_0 a0_1 a0_2 a0_3 = some (r1,r2))∧Aside0 (kq≤k)∧Aside0 (wc.heap[gb170]? = some (.cells #[.int .i64 a0_0,.int .i64 a0_1,.string a0_2,.int .i64 a0_3] 64 (0,0)))∧Aside0 (Below w.heap.size w wc))
 case first =>
  have H:=HC2.out;clear HC2
  by_cases c5:a0_0 = 1
  ·rw [if_pos c5] at H
   have c5b0:(a0_0 == 1) = true:=beq_iff_eq.mpr c5;have c5b1:(a0_0 != 1) = false:=bne_eq_false_iff_eq.mpr c5;clear c5
   (first|rw [c5b0]|(simp only [i64_w,i32_w];rw [c5b0])|(simp only [c5b2,Bool.not_true,Bool.not_false])|skip)
   have H':=Aside0.mk H;clear H
   go_wp2
   go_meet
   case rel=>exact ⟨_,((a0_0 == 1)),(cl2),H',⟨by first|omega|exact Nat.le_refl _⟩,⟨bk BK170.out⟩,⟨bl HB.out⟩⟩
  ·rw [if_neg c5] at H
   have c5b0:(a0_0 == 1) = false:=beq_eq_false_iff_ne.mpr c5;have c5b1:(a0_0 != 1) = true:=bne_iff_ne.mpr c5
   (first|rw [c5b0]|(simp only [i64_w,i32_w];rw [c5b0])|(simp only [c5b2,Bool.not_true,Bool.not_false])|skip)
   by_cases c6:a0_0 = 2
   ·rw [if_pos c6] at H
    have c6b0:(a0_0 == 2) = true:=beq_iff_eq.mpr c6;have c6b1:(a0_0 != 2) = false:=bne_eq_false_iff_eq.mpr c6;clear c6;have H':=Aside0.mk H;clear H
    go_wp2
    go_meet
    case rel=>exact ⟨_,((a0_0 == 2)),(cl2),H',⟨by first|omega|exact Nat.le_refl _⟩,⟨bk BK170.out⟩,⟨bl HB.out⟩⟩
   ·rw [if_neg c6] at H
    have c6b0:(a0_0 == 2) = false:=beq_eq_false_iff_ne.mpr c6;have c6b1:(a0_0 != 2) = true:=bne_iff_ne.mpr c6;have H':=Aside0.mk H;clear H
    go_wp2
    go_meet
    case rel=>exact ⟨_,((a0_0 == 3)),(cl2),H',⟨by first|omega|exact Nat.le_refl _⟩,⟨bk BK170.out⟩,⟨bl HB.out⟩⟩
 case rest =>
  clear HC2;(try clear p2);(try clear c4);(try clear c5);(try clear c5b0);(try clear c5b1);(try clear c5b2);(try clear c6);(try clear c6b0);(try clear c6b1);(try clear hcz4_0);(try clear hcz4_1);(try clear hcz4_2);(try clear hcz4_3);(try clear hfz4_0);(try clear hfz4_1);(try clear hfz4_2);(try clear hfz4_3);(try clear BK170);(try clear HB);obtain ⟨kq,x6_1,rfl,HA,HJ1,BK170,HB⟩:=hcut
  cases kq with
  | zero=>exact absurd HA.out (by simp [spec_l9Takes.j0])
  | succ kj1 =>
   have H:=HA.out;clear HA;simp only [spec_l9Takes.j0] at H
   by_cases c7:x6_1 = true
   ·subst c7
    have H1:(some (0,1)) = some (r1,r2):=by rw [if_pos rfl] at H;exact H
    clear H;have H:=H1;clear H1;simp only [Option.some.injEq,Prod.mk.injEq] at H;obtain ⟨rfl,rfl⟩:=H
    go_wp2
    go_ret2
    exact ⟨cl,bl HB.out⟩
   ·replace c7:=Bool.eq_false_iff.mpr c7
    subst c7;have H1:(if a0_0 = 4 then (spec_l9Takes.j1 kj1 a0_0 (a0_0 == 4) a0_0 a0_1 a0_2 a0_3) else (if a0_0 = 5 then (spec_l9Takes.j1 kj1 a0_0 (a0_0 == 5) a0_0 a0_1 a0_2 a0_3) else (if a0_0 = 6 then (spec_l9Takes.j1 kj1 a0_0 (a0_0 == 6) a0_0 a0_1 a0_2 a0_3) else (spec_l9Takes.j1 kj1 a0_0 (a0_0 == 8) a0_0 a0_1 a0_2 a0_3)))) = some (r1,r2):=by rw [if_neg (show ¬ (false = true) by decide)] at H;exact H
    clear H;have H:=H1;clear H1;have HC8:=Aside0.mk H;clear H
    go_upto_if 10 with (fail)
    go_cut [10] (fun v10 wc=>∃ (kq:Nat) (x10_7:Bool),v10 = .bool x10_7∧Aside0 (spec_l9Takes.j1 kq a0_0 x10_7 a0_0 a0_1 a0_2 a0_3 = some (r1,r2))∧Aside0 (kq≤kj1)∧Aside0 (wc.heap[gb170]? = some (.cells #[.int .i64 a0_0,.int .i64 a0_1,.string a0_2,.int .i64 a0_3] 64 (0,0)))∧Aside0 (Below w.heap.size w wc))
    case first =>
     have H:=HC8.out;clear HC8
     by_cases c9:a0_0 = 4
     ·rw [if_pos c9] at H
      have c9b0:(a0_0 == 4) = true:=beq_iff_eq.mpr c9;have c9b1:(a0_0 != 4) = false:=bne_eq_false_iff_eq.mpr c9;clear c9
      (first|rw [c9b0]|(simp only [i64_w,i32_w];rw [c9b0])|(simp only [c9b2,Bool.not_true,Bool.not_false])|skip)
      have H':=Aside0.mk H;clear H
      go_wp2
      go_meet
      case rel=>exact ⟨_,((a0_0 == 4)),(cl2),H',⟨by have:=HJ1.out;first|omega|exact Nat.le_refl _⟩,⟨bk BK170.out⟩,⟨bl HB.out⟩⟩
     ·rw [if_neg c9] at H
      have c9b0:(a0_0 == 4) = false:=beq_eq_false_iff_ne.mpr c9;have c9b1:(a0_0 != 4) = true:=bne_iff_ne.mpr c9
      (first|rw [c9b0]|(simp only [i64_w,i32_w];rw [c9b0])|(simp only [c9b2,Bool.not_true,Bool.not_false])|skip)
      by_cases c10:a0_0 = 5
      ·rw [if_pos c10] at H
       have c10b0:(a0_0 == 5) = true:=beq_iff_eq.mpr c10;have c10b1:(a0_0 != 5) = false:=bne_eq_false_iff_eq.mpr c10;clear c10;have H':=Aside0.mk H;clear H
       go_wp2
       go_meet
       case rel=>exact ⟨_,((a0_0 == 5)),(cl2),H',⟨by have:=HJ1.out;first|omega|exact Nat.le_refl _⟩,⟨bk BK170.out⟩,⟨bl HB.out⟩⟩
      ·rw [if_neg c10] at H
       have c10b0:(a0_0 == 5) = false:=beq_eq_false_iff_ne.mpr c10;have c10b1:(a0_0 != 5) = true:=bne_iff_ne.mpr c10
       by_cases c11:a0_0 = 6
       ·rw [if_pos c11] at H
        have c11b0:(a0_0 == 6) = true:=beq_iff_eq.mpr c11;have c11b1:(a0_0 != 6) = false:=bne_eq_false_iff_eq.mpr c11;clear c11;have H':=Aside0.mk H;clear H
        go_wp2
        go_meet
        case rel=>exact ⟨_,((a0_0 == 6)),(cl2),H',⟨by have:=HJ1.out;first|omega|exact Nat.le_refl _⟩,⟨bk BK170.out⟩,⟨bl HB.out⟩⟩
       ·rw [if_neg c11] at H
        have c11b0:(a0_0 == 6) = false:=beq_eq_false_iff_ne.mpr c11;have c11b1:(a0_0 != 6) = true:=bne_iff_ne.mpr c11;have H':=Aside0.mk H;clear H
        go_wp2
        go_meet
        case rel=>exact ⟨_,((a0_0 == 8)),(cl2),H',⟨by have:=HJ1.out;first|omega|exact Nat.le_refl _⟩,⟨bk BK170.out⟩,⟨bl HB.out⟩⟩
    case rest =>
     clear HC8;(try clear c1);(try clear p2);(try clear c4);(try clear c5);(try clear c5b0);(try clear c5b1);(try clear c5b2);(try clear c6);(try clear c6b0);(try clear c6b1);(try clear c7);(try clear c9);(try clear c9b0);(try clear c9b1);(try clear c9b2);(try clear c10);(try clear c10b0);(try clear c10b1);(try clear c11);(try clear c11b0);(try clear c11b1);(try clear hcz4_0);(try clear hcz4_1);(try clear hcz4_2);(try clear hcz4_3);(try clear hfz4_0);(try clear hfz4_1);(try clear hfz4_2);(try clear hfz4_3);(try clear p2);(try clear BK170);(try clear HB);obtain ⟨kq,x10_7,rfl,HA,HJ7,BK170,HB⟩:=hcut
     cases kq with
     | zero=>exact absurd HA.out (by simp [spec_l9Takes.j1])
     | succ kj7 =>
      have H:=HA.out;clear HA;simp only [spec_l9Takes.j1] at H
      by_cases c12:x10_7 = true
      ·subst c12
       have H1:(some (a0_1,1)) = some (r1,r2):=by rw [if_pos rfl] at H;exact H
       clear H;have H:=H1;clear H1;simp only [Option.some.injEq,Prod.mk.injEq] at H;obtain ⟨rfl,rfl⟩:=H;obtain ⟨hcz13_0,hcz13_1,hcz13_2,hcz13_3⟩:=kb4 BK170.out
       go_wp2
       go_ret2
       exact ⟨cl,bl HB.out⟩
      ·replace c12:=Bool.eq_false_iff.mpr c12
       subst c12;have H1:(if a0_0 = 7 then (some (2,1)) else (if a0_0 = 9 then (some (1,0)) else (if a0_0 = 12 then (some (1,0)) else (some (0,0))))) = some (r1,r2):=by rw [if_neg (show ¬ (false = true) by decide)] at H;exact H
       clear H;have H:=H1;clear H1
       by_cases c14:a0_0 = 7
       ·rw [if_pos c14] at H
        have c14b0:(a0_0 == 7) = true:=beq_iff_eq.mpr c14;have c14b1:(a0_0 != 7) = false:=bne_eq_false_iff_eq.mpr c14;clear c14;simp only [Option.some.injEq,Prod.mk.injEq] at H;obtain ⟨rfl,rfl⟩:=H
        go_wp2
        go_ret2
        exact ⟨cl,bl HB.out⟩
       ·rw [if_neg c14] at H
        have c14b0:(a0_0 == 7) = false:=beq_eq_false_iff_ne.mpr c14;have c14b1:(a0_0 != 7) = true:=bne_iff_ne.mpr c14
        by_cases c15:a0_0 = 9
        ·rw [if_pos c15] at H
         have c15b0:(a0_0 == 9) = true:=beq_iff_eq.mpr c15;have c15b1:(a0_0 != 9) = false:=bne_eq_false_iff_eq.mpr c15;clear c15;simp only [Option.some.injEq,Prod.mk.injEq] at H;obtain ⟨rfl,rfl⟩:=H
         go_wp2
         go_ret2
         exact ⟨cl,bl HB.out⟩
        ·rw [if_neg c15] at H
         have c15b0:(a0_0 == 9) = false:=beq_eq_false_iff_ne.mpr c15;have c15b1:(a0_0 != 9) = true:=bne_iff_ne.mpr c15
         by_cases c16:a0_0 = 12
         ·rw [if_pos c16] at H
          have c16b0:(a0_0 == 12) = true:=beq_iff_eq.mpr c16;have c16b1:(a0_0 != 12) = false:=bne_eq_false_iff_eq.mpr c16;clear c16;simp only [Option.some.injEq,Prod.mk.injEq] at H;obtain ⟨rfl,rfl⟩:=H
          go_wp2
          go_ret2
          exact ⟨cl,bl HB.out⟩
         ·rw [if_neg c16] at H
          have c16b0:(a0_0 == 12) = false:=beq_eq_false_iff_ne.mpr c16;have c16b1:(a0_0 != 12) = true:=bne_iff_ne.mpr c16;simp only [Option.some.injEq,Prod.mk.injEq] at H;obtain ⟨rfl,rfl⟩:=H
          go_wp2
          go_ret2
          exact ⟨cl,bl HB.out⟩

/-! ### spec_l9Come: function 41 -/
def spec_l9Come.f (l0:List Int) (a1:Int) (a2:Int):Option (Bool × List Int):=if 0≤a1 then (if a1 < (l0.length:Int) then (if (rd l0 a1) = (-1) then ((some (l0.set (a1:Int).toNat a2:List Int)).bind fun y172=>(some (((rd y172 a1) == a2),y172))) else (some (((rd l0 a1) == a2),l0))) else (none)) else (none)
set_option maxHeartbeats 8000000 in
set_option maxRecDepth 100000 in
theorem spec_l9Come.calls (P0_:Nat → Prop) (u9000_:Value) (l0:List Int) (a1:Int) (a2:Int) (r1:Bool) (r2:List Int) (w0 w:World) (hB:Below w0.heap.size w0 w) (ho0:Kd.R (Kd.int .i64) 3 w w0.heap.size P0_ u9000_ l0) (h:spec_l9Come.f l0 a1 a2 = some (r1,r2)) :
  Calls Try.prog 41 #[u9000_,.int .i64 a1,.int .i64 a2] w fun e w'=>e = .returned (.bool r1)∧Kd.R (Kd.int .i64) 3 w' w0.heap.size (fun k_=>(P0_ k_∨w.heap.size≤k_)) u9000_ r2∧Below w0.heap.size w0 w'∧Kept w w' (fun k_=>P0_ k_):=by
 have HO0:=Aside0.mk (show Kd.R (Kd.int .i64) 3 w w0.heap.size (fun k_=>(P0_ k_∨w.heap.size≤k_)) u9000_ l0 from Kd.R_mono ho0 (fun k_ hk=>(.inl hk)));have HK:=Aside0.mk (Kept.refl w (fun k_=>P0_ k_));have HW0:=Aside0.mk hB.size;have HB:=Aside0.mk hB;clear hB;have H:(if 0≤a1 then (if a1 < (l0.length:Int) then (if (rd l0 a1) = (-1) then ((some (l0.set (a1:Int).toNat a2:List Int)).bind fun y172=>(some (((rd y172 a1) == a2),y172))) else (some (((rd l0 a1) == a2),l0))) else (none)) else (none)) = some (r1,r2):=h;clear h
 by_cases c4:0≤a1
 ·rw [if_pos c4] at H
  have c4b0:decide (0≤a1) = true:=decide_eq_true c4;clear c4
  by_cases c5:a1 < (l0.length:Int)
  ·rw [if_pos c5] at H
   have c5b0:decide (a1 < (l0.length:Int)) = true:=decide_eq_true c5;clear c5
   by_cases c6:(rd l0 a1) = (-1)
   ·rw [if_pos c6] at H
    have c6b0:((rd l0 a1) == (-1)) = true:=beq_iff_eq.mpr c6;have c6b1:((rd l0 a1) != (-1)) = false:=bne_eq_false_iff_eq.mpr c6;clear c6;obtain ⟨y172,hy172⟩:∃ y_:List Int,y_ = (l0.set (a1:Int).toNat a2):=⟨_,rfl⟩;replace H:(some (((rd y172 a1) == a2),y172)) = some (r1,r2):=by first|(rw [hy172];with_reducible exact H)|(have H2_:=(Option.bind_some _ _).symm.trans H;rw [hy172];with_reducible exact H2_)|(have H2_:=(Option.bind_some _ _).symm.trans H;with_reducible exact H2_)|with_reducible exact H|(rw [hy172];exact H)|exact H
    have Ny172:=Aside0.mk hy172;clear hy172;simp only [Option.some.injEq,Prod.mk.injEq] at H;obtain ⟨rfl,rfl⟩:=H;obtain ⟨Ao8,co8,eo8⟩:=Kd.R_slice HO0.out;subst eo8;have p171:0≤(a1:Int):=od;have q171:a1 < (l0.length:Int):=od;obtain ⟨ad171,e171,hx171_0⟩:=Kd.at_int (Kd.R_reads' HO0.out).2.2 a1 p171 q171;cases e171;replace p171:=eq_true p171;replace q171:=eq_true q171;have p7:0≤(a1:Int):=od;have q7:(a1:Int) < ((l0.length:Int):Int):=od;obtain ⟨go7,co7,eo7,gb7,gl7,cl7,HG7⟩:=Kd.R_form HO0.out (by omega)
    (first|cases eo7|(injection eo7 with ea_ en_ ec_;(first|subst ea_|(injection ea_ with ea_;subst ea_));subst ec_;clear en_))
    have GB7:=Aside0.mk gb7;have GG7:=Aside0.mk HG7;clear gb7 gl7 HG7;have HMgo7:=Aside0.mk (show (P0_ go7∨w.heap.size≤go7) from (HO0.out.1 _ rfl))
    (first|simp only [add_plain] at hx171_0|skip)
    obtain ⟨hx7_0,hf7_0⟩:=Kd.R_celln 0 HO0.out (a1:Int) p7 q7;replace p7:=eq_true p7;replace q7:=eq_true q7;have HP9:=Kd.R_putg HO0.out (a1:Int) a2
    go_enter Try.func41,Try.ntmps41
    go_wp2_with (first|((with_reducible refine gate_store (t:=3) (p:=15) rfl ?_);refine store_event (t:=3) (p:=15) (v:=?vo_w10) (w1:=(w.setCell ⟨go7,(a1:Int).toNat,none⟩ (.int .i64 a2))) ?hg ?ho ?hn ?hr ?_;(case ho=>rfl);(case hg=>rfl);(case hn=>rfl);(case hr=>first|(go_simp;done)|(go_simp;rfl));intro w10 hw;have hg:w.grownBy w10 (some go7):=(by rw [hw];exact HP9.2);have hp_:Kd.R (Kd.int .i64) 3 w10 w0.heap.size (fun k_=>(P0_ k_∨w.heap.size≤k_)) (.slice (some ⟨go7,0,none⟩) l0.length co8) y172:=(by rw [hw,Ny172.out];exact HP9.1);clear HP9;have n_:=ai (Aside0.mk (hp_)) <| ai (Aside0.mk ((by rw [hw];exact below_set (HB.out) GB7.out:Below w0.heap.size w0 w10))) <| Aside0.mk (Kept.of_grown (S:=(fun k_=>P0_ k_)) hg (by repeat (first|(with_reducible first|exact HK.out|apply Kept.alloc|apply Kept.drewN|apply Kept.drew)|exact HK.out)) (fun k_ e_=>(HO0.out.1 k_ e_)));clear HO0 HB HK;obtain ⟨HO0,HB,HK⟩:=n_;clear hg hw hp_;have p173:0≤(a1:Int):=od;have q173:a1 < (y172.length:Int):=(by have h_:(a1:Int) < ((l0.length:Int):Int):=od;first|(have e_:=(Kd.R_reads' HO0.out).1;omega)|simpa only [Ny172.out,List.length_set] using h_);have ql173:((a1:Int) < ((l0.length:Int):Int)) = True:=eq_true (od);obtain ⟨ad173,e173,hx173_0⟩:=Kd.at_int (Kd.R_reads' HO0.out).2.2 a1 p173 q173;obtain rfl:(⟨go7,0,none⟩:Addr) = ad173:=(by injection e173);(first|simp only [add_plain] at hx173_0|simp only [add_at] at hx173_0|simp only [Addr.add,Nat.zero_add] at hx173_0|skip);replace p173:=eq_true p173;replace q173:=eq_true q173))
    go_ret
    exact ⟨cl,rk HO0.out,bl HB.out,by repeat (first|(with_reducible first|exact HK.out|apply Kept.alloc|apply Kept.drewN|apply Kept.drew)|exact HK.out)⟩
   ·rw [if_neg c6] at H
    have c6b0:((rd l0 a1) == (-1)) = false:=beq_eq_false_iff_ne.mpr c6;have c6b1:((rd l0 a1) != (-1)) = true:=bne_iff_ne.mpr c6;simp only [Option.some.injEq,Prod.mk.injEq] at H;obtain ⟨rfl,rfl⟩:=H;obtain ⟨Ao11,co11,eo11⟩:=Kd.R_slice HO0.out;subst eo11;have p171:0≤(a1:Int):=od;have q171:a1 < (l0.length:Int):=od;obtain ⟨ad171,e171,hx171_0⟩:=Kd.at_int (Kd.R_reads' HO0.out).2.2 a1 p171 q171;cases e171;replace p171:=eq_true p171;replace q171:=eq_true q171;have p174:0≤(a1:Int):=od;have q174:a1 < (l0.length:Int):=od;obtain ⟨ad174,e174,hx174_0⟩:=Kd.at_int (Kd.R_reads' HO0.out).2.2 a1 p174 q174;obtain rfl:ad171 = ad174:=(by injection e174);replace p174:=eq_true p174;replace q174:=eq_true q174
    go_enter Try.func41,Try.ntmps41
    go_wp2
    go_ret
    exact ⟨cl,rk HO0.out,bl HB.out,by repeat (first|(with_reducible first|exact HK.out|apply Kept.alloc|apply Kept.drewN|apply Kept.drew)|exact HK.out)⟩
  ·rw [if_neg c5] at H
   exact absurd H (by simp)
 ·rw [if_neg c4] at H
  exact absurd H (by simp)

end Go.Proofs.Ytghhbdmjafedbaa.QFnExactCodeOk
