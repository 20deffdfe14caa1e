-- Written by a program of this workplace (print2.py) for this claim, over the print's words.
import Derived.Test.YtghhbdmjafedbaaQFnExactCodeOkx0
import Derived.Test.YtghhbdmjafedbaaQFnExactCodeOkx2
namespace Go.Proofs.Ytghhbdmjafedbaa.QFnExactCodeOk
open Go.RowKit Go.Proofs.YtghhbdmjafedbaaW.PrintWords Go.Proofs.YtghhbdmjafedbaaW.PrintLast Go.Proofs.YtghhbdmjafedbaaW.PrintMore
attribute [local go_sem] max2_int min2_int max_two min_two max_three min_three max_four min_four   -- for this text's walks alone
set_option linter.unusedVariables false
set_option linter.unusedSimpArgs false

/-! ### spec_l9Look: function 50 -/
mutual
def spec_l9Look.j0:Nat → Int → Int → Int → Bool → Int → Int → ByteArray → List (S67) → Option (Int)
 | 0,_,_,_,_,_,_,_,_=>none
 | k + 1,x1,x2,x3,x21,x128000,x128001,x128002,x128003=>if x21 = true then (some (-1)) else (spec_l9Look.l0 k x1 x2 (wrap64 (x3 - 1)) 0 x128000 x128001 x128002 x128003)
def spec_l9Look.l0:Nat → Int → Int → Int → Int → Int → Int → ByteArray → List (S67) → Option (Int)
 | 0,_,_,_,_,_,_,_,_=>none
 | k + 1,x1,x2,x3,x9,x128000,x128001,x128002,x128003=>if x9 < (x128003.length:Int) then (if x3 ≥ 0 then (if 0≤x9 then ((spec_l9Look.f k ((rd_T67 x128003 x9).f0) ((rd_T67 x128003 x9).f1) ((rd_T67 x128003 x9).f2) ((rd_T67 x128003 x9).f3) x1 (wrap64 (x2 - 1)) x3).bind fun t130=>(spec_l9Look.l0 k x1 x2 t130 (wrap64 (x9 + 1)) x128000 x128001 x128002 x128003)) else (none)) else (some x3)) else (some x3)
def spec_l9Look.f:Nat → Int → Int → ByteArray → List (S67) → Int → Int → Int → Option (Int)
 | 0,_,_,_,_,_,_,_=>none
 | k + 1,a0_0,a0_1,a0_2,l0_3,a1,a2,a3=>if a2 < 1 then (spec_l9Look.j0 k a1 a2 a3 true a0_0 a0_1 a0_2 l0_3) else (if a3 < 1 then (spec_l9Look.j0 k a1 a2 a3 true a0_0 a0_1 a0_2 l0_3) else ((spec_l9Shape.f k a0_0 a0_1 a0_2 l0_3 a1).bind fun t128=>(spec_l9Look.j0 k a1 a2 a3 (!t128) a0_0 a0_1 a0_2 l0_3)))
end
theorem spec_l9Look.mono_l:∀ k,(∀ y0 y1 y2 y3 y4 y5 y6,LeO (spec_l9Look.f k y0 y1 y2 y3 y4 y5 y6) (spec_l9Look.f (k + 1) y0 y1 y2 y3 y4 y5 y6))∧(∀ y0 y1 y2 y3 y4 y5 y6 y7,LeO (spec_l9Look.j0 k y0 y1 y2 y3 y4 y5 y6 y7) (spec_l9Look.j0 (k + 1) y0 y1 y2 y3 y4 y5 y6 y7))∧(∀ y0 y1 y2 y3 y4 y5 y6 y7,LeO (spec_l9Look.l0 k y0 y1 y2 y3 y4 y5 y6 y7) (spec_l9Look.l0 (k + 1) y0 y1 y2 y3 y4 y5 y6 y7))
 | 0=>⟨fun _ _ _ _ _ _ _ r h=>by simp [spec_l9Look.f] at h,fun _ _ _ _ _ _ _ _ r h=>by simp [spec_l9Look.j0] at h,fun _ _ _ _ _ _ _ _ r h=>by simp [spec_l9Look.l0] at h⟩
 | k + 1=>by
  obtain ⟨ih0,ih1,ih2⟩:=spec_l9Look.mono_l k
  refine ⟨?_,?_,?_⟩
  ·intro y0 y1 y2 y3 y4 y5 y6
   unfold spec_l9Look.f
   with_reducible repeat' first|apply ih0|apply ih1|apply ih2|apply spec_l9Shape.mono|apply LeO.refl|apply LeO.none|apply LeO.ite|refine LeO.bind ?_ (fun _=>?_)
  ·intro y0 y1 y2 y3 y4 y5 y6 y7
   unfold spec_l9Look.j0
   with_reducible repeat' first|apply ih0|apply ih1|apply ih2|apply spec_l9Shape.mono|apply LeO.refl|apply LeO.none|apply LeO.ite|refine LeO.bind ?_ (fun _=>?_)
  ·intro y0 y1 y2 y3 y4 y5 y6 y7
   unfold spec_l9Look.l0
   with_reducible repeat' first|apply ih0|apply ih1|apply ih2|apply spec_l9Shape.mono|apply LeO.refl|apply LeO.none|apply LeO.ite|refine LeO.bind ?_ (fun _=>?_)
theorem spec_l9Look.mono:∀ a0 a1 a2 a3 a4 a5 a6 k,LeO (spec_l9Look.f k a0 a1 a2 a3 a4 a5 a6) (spec_l9Look.f (k + 1) a0 a1 a2 a3 a4 a5 a6):=by
 intro a0 a1 a2 a3 a4 a5 a6 k;obtain ⟨ih0,ih1,ih2⟩:=spec_l9Look.mono_l k
 exact ih0 a0 a1 a2 a3 a4 a5 a6
set_option maxHeartbeats 8000000 in
set_option maxRecDepth 100000 in
theorem spec_l9Look.calls (k:Nat):∀ (a0_0:Int) (a0_1:Int) (a0_2:ByteArray) (A0_3:Option Addr) (c0_3:Nat) (l0_3:List (S67)) (a1:Int) (a2:Int) (a3:Int) (r:Int) (w:World) (hr0_3:Kd.C k67 w A0_3 l0_3.length l0_3) (hc0_3:l0_3.length≤c0_3) (h:spec_l9Look.f k a0_0 a0_1 a0_2 l0_3 a1 a2 a3 = some r),
  Calls Try.prog 50 #[.agg #[.int .i64 a0_0,.int .i64 a0_1,.string a0_2,.slice A0_3 l0_3.length c0_3],.int .i64 a1,.int .i64 a2,.int .i64 a3] w fun e w'=>e = .returned (.int .i64 r)∧Below w.heap.size w w':=by
 induction k using Nat.strongRecOn with
 | _ k ih =>
 intro a0_0 a0_1 a0_2 A0_3 c0_3 l0_3 a1 a2 a3 r w hr0_3 hc0_3 h
 cases k with
 | zero=>exact absurd h (by simp [spec_l9Look.f])
 | succ k =>
 simp only [spec_l9Look.f] at h;have hu67:=Try.underlying67;have HR0_3:=Aside0.mk hr0_3;have HC0_3:=Aside0.mk hc0_3;clear hr0_3 hc0_3;have HB:=Aside0.mk (Below.refl w.heap.size w);have H:(if a2 < 1 then (spec_l9Look.j0 k a1 a2 a3 true a0_0 a0_1 a0_2 l0_3) else (if a3 < 1 then (spec_l9Look.j0 k a1 a2 a3 true a0_0 a0_1 a0_2 l0_3) else ((spec_l9Shape.f k a0_0 a0_1 a0_2 l0_3 a1).bind fun t128=>(spec_l9Look.j0 k a1 a2 a3 (!t128) a0_0 a0_1 a0_2 l0_3)))) = some r:=h;clear h;have HC5:=Aside0.mk H;clear H
 go_enter Try.func50,Try.ntmps50
 go_upto_region 1 with (first|((with_reducible refine gate_dst (N:=4) rfl ?_);refine box_event ?hg (N:=4) ?hd (cs:=#[.int .i64 a0_0,.int .i64 a0_1,.string a0_2,.slice A0_3 l0_3.length c0_3]) (t:=67) ?hr ?_;(case hd=>rfl);(case hg=>rfl);(case hr=>first|(go_simp;done)|(go_simp;rfl));intro gb127 hg w6 hbox hb;have n_:=ai (bq HB hb) <| ai (Aside0.mk (hbox)) <| ai (bz hg HB) <| bz hg HB;clear HB;obtain ⟨HB,BK127,GW127,GE127⟩:=n_;clear hb hbox hg))
 (try simp only [Act.put,List.setIfInBounds_toArray,List.set_cons_zero,List.set_cons_succ])
 go_cut [21] (fun v21 wc=>∃ (kq:Nat) (x21_4:Bool),v21 = .bool x21_4∧Aside0 (spec_l9Look.j0 kq a1 a2 a3 x21_4 a0_0 a0_1 a0_2 l0_3 = some r)∧Aside0 (kq≤k)∧Aside0 (wc.heap[gb127]? = some (.cells #[.int .i64 a0_0,.int .i64 a0_1,.string a0_2,(.slice A0_3 l0_3.length c0_3)] 67 (0,0)))∧Aside0 (Below w.heap.size w wc))
 case first =>
  have H:=HC5.out;clear HC5
  by_cases c7:a2 < 1
  ·rw [if_pos c7] at H
   have c7b0:decide (a2 < 1) = true:=decide_eq_true c7;clear c7
   (first|rw [c7b0]|(simp only [i64_w,i32_w];rw [c7b0])|(simp only [c7b2,Bool.not_true,Bool.not_false])|skip)
   have H':=Aside0.mk H;clear H
   go_wp2
   go_meet
   case rel=>exact ⟨_,(true),(cl2),H',⟨by first|omega|exact Nat.le_refl _⟩,⟨bk BK127.out⟩,⟨bl HB.out⟩⟩
  ·rw [if_neg c7] at H
   have c7b0:decide (a2 < 1) = false:=decide_eq_false c7;clear c7
   (first|rw [c7b0]|(simp only [i64_w,i32_w];rw [c7b0])|(simp only [c7b2,Bool.not_true,Bool.not_false])|skip)
   by_cases c8:a3 < 1
   ·rw [if_pos c8] at H
    have c8b0:decide (a3 < 1) = true:=decide_eq_true c8;clear c8;have H':=Aside0.mk H;clear H
    go_wp2
    go_meet
    case rel=>exact ⟨_,(true),(cl2),H',⟨by first|omega|exact Nat.le_refl _⟩,⟨bk BK127.out⟩,⟨bl HB.out⟩⟩
   ·rw [if_neg c8] at H
    have c8b0:decide (a3 < 1) = false:=decide_eq_false c8;clear c8;replace H:=Option.bind_eq_some_iff.mp H;obtain ⟨t128,A90,H⟩:=H;replace H:(spec_l9Look.j0 k a1 a2 a3 (!t128) a0_0 a0_1 a0_2 l0_3) = some r:=H;have A9:=Aside0.mk A90;clear A90;have H':=Aside0.mk H;clear H;obtain ⟨hcz10_0,hcz10_1,hcz10_2,hcz10_3⟩:=kb4 BK127.out
    go_wp2_with (first|(go_at_call 58;(with_reducible refine (spec_l9Shape.calls k a0_0 a0_1 a0_2 _ _ l0_3 a1 t128 _ ?side1 ?side2 A9.out).mono ?_);(case side1=>exact ck (Kd.C_below HR0_3.out HB.out));(case side2=>exact HC0_3.out);rintro e w11 ⟨rfl,hb⟩;have n_:=ai (bw BK127 hb) <| bq HB hb;clear BK127 HB;obtain ⟨BK127,HB⟩:=n_;(try clear hb);(try clear hb2);(try clear hk);(try clear hi)))
    go_meet
    case rel=>exact ⟨_,(!t128),(cl2),H',⟨by first|omega|exact Nat.le_refl _⟩,⟨bk BK127.out⟩,⟨bl HB.out⟩⟩
 case rest =>
  clear HC5;(try clear p2);(try clear c5);(try clear c7);(try clear c7b0);(try clear c7b2);(try clear c8);(try clear c8b0);(try clear hcz10_0);(try clear hcz10_1);(try clear hcz10_2);(try clear hcz10_3);(try clear hfz10_0);(try clear hfz10_1);(try clear hfz10_2);(try clear hfz10_3);(try clear BK127);(try clear HB);obtain ⟨kq,x21_4,rfl,HA,HJ4,BK127,HB⟩:=hcut
  cases kq with
  | zero=>exact absurd HA.out (by simp [spec_l9Look.j0])
  | succ kj4 =>
   have H:=HA.out;clear HA;simp only [spec_l9Look.j0] at H
   by_cases c12:x21_4 = true
   ·subst c12
    have H1:(some (-1)) = some r:=by rw [if_pos rfl] at H;exact H
    clear H;have H:=H1;clear H1;obtain rfl:=Option.some.inj H
    go_wp2
    go_ret
    exact ⟨cl,bl HB.out⟩
   ·replace c12:=Bool.eq_false_iff.mpr c12
    subst c12;have H1:(spec_l9Look.l0 kj4 a1 a2 (wrap64 (a3 - 1)) 0 a0_0 a0_1 a0_2 l0_3) = some r:=by rw [if_neg (show ¬ (false = true) by decide)] at H;exact H
    clear H;have H:=H1;clear H1;have H':=Aside0.mk H;clear H
    go_wp2
    go_loopg [3,9] kj4 (fun kq v3 v9 w'=>∃ (x3_2:Int) (x9_2:Int),v3 = .int .i64 x3_2∧v9 = .int .i64 x9_2∧Aside0 (spec_l9Look.l0 kq a1 a2 x3_2 x9_2 a0_0 a0_1 a0_2 l0_3 = some r)∧Aside0 (kq≤kj4)∧Aside0 (w'.heap[gb127]? = some (.cells #[.int .i64 a0_0,.int .i64 a0_1,.string a0_2,(.slice A0_3 l0_3.length c0_3)] 67 (0,0)))∧Aside0 (Below w.heap.size w w'))
    case atStart=>exact ⟨(wrap64 (a3 - 1)),(0),(cl2),(cl2),H',⟨Nat.le_refl _⟩,⟨bk BK127.out⟩,⟨bl HB.out⟩⟩
    case round =>
     clear H';(try clear c1);(try clear p2);(try clear c5);(try clear p6);(try clear c7);(try clear c7b0);(try clear c7b2);(try clear c8);(try clear c8b0);(try clear c12);(try clear hcz10_0);(try clear hcz10_1);(try clear hcz10_2);(try clear hcz10_3);(try clear hfz10_0);(try clear hfz10_1);(try clear hfz10_2);(try clear hfz10_3);(try clear p2);(try clear BK127);(try clear HB);obtain ⟨x3_2,x9_2,rfl,rfl,HA,HK2,BK127,HB⟩:=hrel
     cases gk with
     | zero=>exact absurd HA.out (by simp [spec_l9Look.l0])
     | succ k2 =>
      have H:=HA.out;clear HA;simp only [spec_l9Look.l0] at H
      by_cases c13:x9_2 < (l0_3.length:Int)
      ·rw [if_pos c13] at H
       have c13b0:decide (x9_2 < (l0_3.length:Int)) = true:=decide_eq_true c13;clear c13
       by_cases c14:x3_2 ≥ 0
       ·rw [if_pos c14] at H
        have c14b0:decide (0≤x3_2) = true:=decide_eq_true c14;clear c14
        by_cases c15:0≤x9_2
        ·rw [if_pos c15] at H
         have c15b0:decide (0≤x9_2) = true:=decide_eq_true c15;clear c15;replace H:=Option.bind_eq_some_iff.mp H;obtain ⟨t130,A160,H⟩:=H;replace H:(spec_l9Look.l0 k2 a1 a2 t130 (wrap64 (x9_2 + 1)) a0_0 a0_1 a0_2 l0_3) = some r:=H;have A16:=Aside0.mk A160;clear A160;have H':=Aside0.mk H;clear H;obtain ⟨hcz17_0,hcz17_1,hcz17_2,hcz17_3⟩:=kb4 BK127.out;have p129:0≤(x9_2:Int):=od;have q129:x9_2 < (l0_3.length:Int):=od;obtain ⟨ad129,A129_3,c129_3,e129,hx129_0,hx129_1,hx129_2,hx129_3,hl129_3,hi129_3⟩:=at_T67 HR0_3.out x9_2 p129 q129;cases e129;replace hx129_0:=cb HB hx129_0;replace hx129_1:=cb HB hx129_1;replace hx129_2:=cb HB hx129_2;replace hx129_3:=cb HB hx129_3;have HR129_3:=Aside0.mk hi129_3;have HC129_3:=Aside0.mk hl129_3;clear hi129_3 hl129_3;replace p129:=eq_true p129;replace q129:=eq_true q129
         go_wp2_with (first|((with_reducible refine gate_callee (f:=50) rfl ?_);refine goesL_ (some 44) rfl rfl Try.func50 (by kernel_rfl) rfl #[.agg #[.int .i64 ((rd_T67 l0_3 x9_2).f0),.int .i64 ((rd_T67 l0_3 x9_2).f1),.string ((rd_T67 l0_3 x9_2).f2),.slice A129_3 ((rd_T67 l0_3 x9_2).f3).length c129_3],.int .i64 a1,.int .i64 (wrap64 (a2 - 1)),.int .i64 x3_2] rfl gs ?_;(with_reducible refine (ih k2 (by have:=HJ4.out;have:=HK2.out;omega) ((rd_T67 l0_3 x9_2).f0) ((rd_T67 l0_3 x9_2).f1) ((rd_T67 l0_3 x9_2).f2) _ _ ((rd_T67 l0_3 x9_2).f3) a1 (wrap64 (a2 - 1)) x3_2 t130 _ ?side1 ?side2 A16.out).mono ?_);(case side1=>exact ck (Kd.C_below HR129_3.out HB.out));(case side2=>exact HC129_3.out);rintro e w18 ⟨rfl,hb⟩;refine ⟨_,rfl,?_⟩;have n_:=ai (bw BK127 hb) <| bq HB hb;clear BK127 HB;obtain ⟨BK127,HB⟩:=n_;(try clear hb);(try clear hb2);(try clear hk);(try clear hi)))
         go_roundg k2
         case measure=>have:=HJ4.out;have:=HK2.out;omega
         case rel=>exact ⟨(t130),(wrap64 (x9_2 + 1)),(cl2),(cl2),H',⟨by have:=HJ4.out;have:=HK2.out;omega⟩,⟨bk BK127.out⟩,⟨bl HB.out⟩⟩
        ·rw [if_neg c15] at H
         exact absurd H (by simp)
       ·rw [if_neg c14] at H
        have c14b0:decide (0≤x3_2) = false:=decide_eq_false c14;clear c14;obtain rfl:=Option.some.inj H;obtain ⟨hcz19_0,hcz19_1,hcz19_2,hcz19_3⟩:=kb4 BK127.out
        go_wp2
        go_ret
        exact ⟨cl,bl HB.out⟩
      ·rw [if_neg c13] at H
       have c13b0:decide (x9_2 < (l0_3.length:Int)) = false:=decide_eq_false c13;clear c13;obtain rfl:=Option.some.inj H;obtain ⟨hcz20_0,hcz20_1,hcz20_2,hcz20_3⟩:=kb4 BK127.out
       go_wp2
       go_ret
       exact ⟨cl,bl HB.out⟩

/-! ### spec_l9Slots: function 51 -/
mutual
def spec_l9Slots.j0:Nat → List Int → Bool → Int → Int → ByteArray → List (S67) → Option (List Int)
 | 0,_,_,_,_,_,_=>none
 | k + 1,x3,x13,x132000,x132001,x132002,x132003=>if x13 = true then (if x3.length < 17592186044416 then (spec_l9Slots.j1 k (x3 ++ [x132001]) x132000 x132001 x132002 x132003) else (none)) else (spec_l9Slots.j1 k x3 x132000 x132001 x132002 x132003)
def spec_l9Slots.j1:Nat → List Int → Int → Int → ByteArray → List (S67) → Option (List Int)
 | 0,_,_,_,_,_=>none
 | k + 1,x3,x132000,x132001,x132002,x132003=>spec_l9Slots.l0 k x3 0 x132000 x132001 x132002 x132003
def spec_l9Slots.l0:Nat → List Int → Int → Int → Int → ByteArray → List (S67) → Option (List Int)
 | 0,_,_,_,_,_,_=>none
 | k + 1,x3,x4,x132000,x132001,x132002,x132003=>if x4 < (x132003.length:Int) then (if 0≤x4 then ((spec_l9Slots.f k ((rd_T67 x132003 x4).f0) ((rd_T67 x132003 x4).f1) ((rd_T67 x132003 x4).f2) ((rd_T67 x132003 x4).f3)).bind fun t139=>(if x3.length + t139.length < 17592186044416 then (spec_l9Slots.l0 k (x3 ++ t139) (wrap64 (x4 + 1)) x132000 x132001 x132002 x132003) else (none))) else (none)) else (some x3)
def spec_l9Slots.f:Nat → Int → Int → ByteArray → List (S67) → Option (List Int)
 | 0,_,_,_,_=>none
 | k + 1,a0_0,a0_1,a0_2,l0_3=>(some (([]:List Int):List Int)).bind fun y132=>(if a0_0 = 3 then (spec_l9Slots.j0 k y132 (a0_1 != (-1)) a0_0 a0_1 a0_2 l0_3) else (spec_l9Slots.j0 k y132 false a0_0 a0_1 a0_2 l0_3))
end
theorem spec_l9Slots.mono_l:∀ k,(∀ y0 y1 y2 y3,LeO (spec_l9Slots.f k y0 y1 y2 y3) (spec_l9Slots.f (k + 1) y0 y1 y2 y3))∧(∀ y0 y1 y2 y3 y4 y5,LeO (spec_l9Slots.j0 k y0 y1 y2 y3 y4 y5) (spec_l9Slots.j0 (k + 1) y0 y1 y2 y3 y4 y5))∧(∀ y0 y1 y2 y3 y4,LeO (spec_l9Slots.j1 k y0 y1 y2 y3 y4) (spec_l9Slots.j1 (k + 1) y0 y1 y2 y3 y4))∧(∀ y0 y1 y2 y3 y4 y5,LeO (spec_l9Slots.l0 k y0 y1 y2 y3 y4 y5) (spec_l9Slots.l0 (k + 1) y0 y1 y2 y3 y4 y5))
 | 0=>⟨fun _ _ _ _ r h=>by simp [spec_l9Slots.f] at h,fun _ _ _ _ _ _ r h=>by simp [spec_l9Slots.j0] at h,fun _ _ _ _ _ r h=>by simp [spec_l9Slots.j1] at h,fun _ _ _ _ _ _ r h=>by simp [spec_l9Slots.l0] at h⟩
 | k + 1=>by
  obtain ⟨ih0,ih1,ih2,ih3⟩:=spec_l9Slots.mono_l k
  refine ⟨?_,?_,?_,?_⟩
  ·intro y0 y1 y2 y3
   unfold spec_l9Slots.f
   with_reducible repeat' first|apply ih0|apply ih1|apply ih2|apply ih3|apply LeO.refl|apply LeO.none|apply LeO.ite|refine LeO.bind ?_ (fun _=>?_)
  ·intro y0 y1 y2 y3 y4 y5
   unfold spec_l9Slots.j0
   with_reducible repeat' first|apply ih0|apply ih1|apply ih2|apply ih3|apply LeO.refl|apply LeO.none|apply LeO.ite|refine LeO.bind ?_ (fun _=>?_)
  ·intro y0 y1 y2 y3 y4
   unfold spec_l9Slots.j1
   with_reducible repeat' first|apply ih0|apply ih1|apply ih2|apply ih3|apply LeO.refl|apply LeO.none|apply LeO.ite|refine LeO.bind ?_ (fun _=>?_)
  ·intro y0 y1 y2 y3 y4 y5
   unfold spec_l9Slots.l0
   with_reducible repeat' first|apply ih0|apply ih1|apply ih2|apply ih3|apply LeO.refl|apply LeO.none|apply LeO.ite|refine LeO.bind ?_ (fun _=>?_)
theorem spec_l9Slots.mono:∀ a0 a1 a2 a3 k,LeO (spec_l9Slots.f k a0 a1 a2 a3) (spec_l9Slots.f (k + 1) a0 a1 a2 a3):=by
 intro a0 a1 a2 a3 k;obtain ⟨ih0,ih1,ih2,ih3⟩:=spec_l9Slots.mono_l k
 exact ih0 a0 a1 a2 a3
set_option maxHeartbeats 8000000 in
set_option maxRecDepth 100000 in
theorem spec_l9Slots.calls (k:Nat):∀ (a0_0:Int) (a0_1:Int) (a0_2:ByteArray) (A0_3:Option Addr) (c0_3:Nat) (l0_3:List (S67)) (r:List Int) (w:World) (hr0_3:Kd.C k67 w A0_3 l0_3.length l0_3) (hc0_3:l0_3.length≤c0_3) (h:spec_l9Slots.f k a0_0 a0_1 a0_2 l0_3 = some r),
  Calls Try.prog 51 #[.agg #[.int .i64 a0_0,.int .i64 a0_1,.string a0_2,.slice A0_3 l0_3.length c0_3]] w fun e w'=>∃ v0_:Value,e = .returned (v0_)∧Kd.R (Kd.int .i64) 3 w' w.heap.size (fun _=>True) v0_ r∧Below w.heap.size w w':=by
 induction k using Nat.strongRecOn with
 | _ k ih =>
 intro a0_0 a0_1 a0_2 A0_3 c0_3 l0_3 r w hr0_3 hc0_3 h
 cases k with
 | zero=>exact absurd h (by simp [spec_l9Slots.f])
 | succ k =>
 simp only [spec_l9Slots.f] at h;have hu67:=Try.underlying67;have HR0_3:=Aside0.mk hr0_3;have HC0_3:=Aside0.mk hc0_3;clear hr0_3 hc0_3;have HB:=Aside0.mk (Below.refl w.heap.size w);have H:((some (([]:List Int):List Int)).bind fun y132=>(if a0_0 = 3 then (spec_l9Slots.j0 k y132 (a0_1 != (-1)) a0_0 a0_1 a0_2 l0_3) else (spec_l9Slots.j0 k y132 false a0_0 a0_1 a0_2 l0_3))) = some r:=h;clear h;obtain ⟨y132,hy132⟩:∃ y_:List Int,y_ = (([]:List Int)):=⟨_,rfl⟩;replace H:(if a0_0 = 3 then (spec_l9Slots.j0 k y132 (a0_1 != (-1)) a0_0 a0_1 a0_2 l0_3) else (spec_l9Slots.j0 k y132 false a0_0 a0_1 a0_2 l0_3)) = some r:=by first|(rw [hy132];with_reducible exact H)|(have H2_:=(Option.bind_some _ _).symm.trans H;rw [hy132];with_reducible exact H2_)|(have H2_:=(Option.bind_some _ _).symm.trans H;with_reducible exact H2_)|with_reducible exact H|(rw [hy132];exact H)|exact H
 have Ny132:=Aside0.mk hy132;clear hy132;have HC2:=Aside0.mk H;clear H
 go_enter Try.func51,Try.ntmps51
 go_upto_region 2 with (first|((with_reducible refine gate_dst (N:=1) rfl ?_);refine box_event ?hg (N:=1) ?hd (cs:=#[.int .i64 a0_0,.int .i64 a0_1,.string a0_2,.slice A0_3 l0_3.length c0_3]) (t:=67) ?hr ?_;(case hd=>rfl);(case hg=>rfl);(case hr=>first|(go_simp;done)|(go_simp;rfl));intro gb131 hg w3 hbox hb;have n_:=ai (bq HB hb) <| ai (Aside0.mk (hbox)) <| ai (bz hg HB) <| bz hg HB;clear HB;obtain ⟨HB,BK131,GW131,GE131⟩:=n_;clear hb hbox hg)|((with_reducible refine gate_dst (N:=5) rfl ?_);refine Kd.R_lit (Kd.int .i64) _ 3 ?hg (N:=5) ?hd (xs:=([]:List Int)) (inner:=[]) (ok:=fun _=>True) (okp:=fun _=>True) ?hr ?hp (fun _ hk=>hk) trivial (Below.refl _ _) (Nat.le_refl _) (by simp) ?_;(case hd=>rfl);(case hg=>rfl);(case hr=>first|(go_simp;done)|(go_simp;rfl));(case hp=>exact (Reps.none _ _));intro v133 w4 ho5 hb hg_ hnew_;clear hg_ hnew_;(first|rw [← Ny132.out] at ho5|(simp only [Int.reduceToNat] at ho5;rw [← Ny132.out] at ho5));have n_:=ai (Aside0.mk (Kd.R_lower ho5 (below_size (bl HB.out)))) <| ai (bw BK131 hb) <| bq HB hb;clear BK131 HB;obtain ⟨HO134,BK131,HB⟩:=n_;clear hb ho5))
 (try simp only [Act.put,List.setIfInBounds_toArray,List.set_cons_zero,List.set_cons_succ])
 go_cut [13] (fun v13 wc=>∃ (kq:Nat) (x13_1:Bool),v13 = .bool x13_1∧Aside0 (spec_l9Slots.j0 kq y132 x13_1 a0_0 a0_1 a0_2 l0_3 = some r)∧Aside0 (kq≤k)∧Aside0 (Kd.R (Kd.int .i64) 3 wc w.heap.size (fun _=>True) v133 y132)∧Aside0 (wc.heap[gb131]? = some (.cells #[.int .i64 a0_0,.int .i64 a0_1,.string a0_2,(.slice A0_3 l0_3.length c0_3)] 67 (0,0)))∧Aside0 (Below w.heap.size w wc))
 case first =>
  have H:=HC2.out;clear HC2
  by_cases c6:a0_0 = 3
  ·rw [if_pos c6] at H
   have c6b0:(a0_0 == 3) = true:=beq_iff_eq.mpr c6;have c6b1:(a0_0 != 3) = false:=bne_eq_false_iff_eq.mpr c6;clear c6
   (first|rw [c6b0]|(simp only [i64_w,i32_w];rw [c6b0])|(simp only [c6b2,Bool.not_true,Bool.not_false])|skip)
   have H':=Aside0.mk H;clear H;obtain ⟨hcz7_0,hcz7_1,hcz7_2,hcz7_3⟩:=kb4 BK131.out
   go_wp2
   go_meet
   case rel=>exact ⟨_,((a0_1 != (-1))),(cl2),H',⟨by first|omega|exact Nat.le_refl _⟩,⟨rk HO134.out⟩,⟨bk BK131.out⟩,⟨bl HB.out⟩⟩
  ·rw [if_neg c6] at H
   have c6b0:(a0_0 == 3) = false:=beq_eq_false_iff_ne.mpr c6;have c6b1:(a0_0 != 3) = true:=bne_iff_ne.mpr c6
   (first|rw [c6b0]|(simp only [i64_w,i32_w];rw [c6b0])|(simp only [c6b2,Bool.not_true,Bool.not_false])|skip)
   have H':=Aside0.mk H;clear H;obtain ⟨hcz8_0,hcz8_1,hcz8_2,hcz8_3⟩:=kb4 BK131.out
   go_wp2
   go_meet
   case rel=>exact ⟨_,(false),(cl2),H',⟨by first|omega|exact Nat.le_refl _⟩,⟨rk HO134.out⟩,⟨bk BK131.out⟩,⟨bl HB.out⟩⟩
 case rest =>
  clear HC2;(try clear p2);(try clear c5);(try clear c6);(try clear c6b0);(try clear c6b1);(try clear c6b2);(try clear hcz7_0);(try clear hcz7_1);(try clear hcz7_2);(try clear hcz7_3);(try clear hcz8_0);(try clear hcz8_1);(try clear hcz8_2);(try clear hcz8_3);(try clear hfz7_0);(try clear hfz7_1);(try clear hfz7_2);(try clear hfz7_3);(try clear hfz8_0);(try clear hfz8_1);(try clear hfz8_2);(try clear hfz8_3);(try clear HO_3);(try clear BK131);(try clear HB);obtain ⟨kq,x13_1,rfl,HA,HJ1,HO_3,BK131,HB⟩:=hcut
  cases kq with
  | zero=>exact absurd HA.out (by simp [spec_l9Slots.j0])
  | succ kj1 =>
   have H:=HA.out;clear HA;simp only [spec_l9Slots.j0] at H;have HC9:=Aside0.mk H;clear H
   go_upto_if 13 with (fail)
   go_cut [3] (fun v3 wc=>∃ (kq:Nat) (x3_8:List Int),Aside0 (spec_l9Slots.j1 kq x3_8 a0_0 a0_1 a0_2 l0_3 = some r)∧Aside0 (kq≤kj1)∧Aside0 (Kd.R (Kd.int .i64) 3 wc w.heap.size (fun _=>True) v3 x3_8)∧Aside0 (wc.heap[gb131]? = some (.cells #[.int .i64 a0_0,.int .i64 a0_1,.string a0_2,(.slice A0_3 l0_3.length c0_3)] 67 (0,0)))∧Aside0 (Below w.heap.size w wc))
   case first =>
    have H:=HC9.out;clear HC9
    by_cases c10:x13_1 = true
    ·subst c10
     have H1:(if y132.length < 17592186044416 then (spec_l9Slots.j1 kj1 (y132 ++ [a0_1]) a0_0 a0_1 a0_2 l0_3) else (none)) = some r:=by rw [if_pos rfl] at H;exact H
     clear H;have H:=H1;clear H1
     by_cases c11:y132.length < 17592186044416
     ·rw [if_pos c11] at H
      have LMc11:=Aside0.mk c11;clear c11;obtain ⟨y135,hy135⟩:∃ y_:List Int,y_ = (y132 ++ [a0_1]):=⟨_,rfl⟩;replace H:(spec_l9Slots.j1 kj1 y135 a0_0 a0_1 a0_2 l0_3) = some r:=by first|(rw [hy135];with_reducible exact H)|(have H2_:=(Option.bind_some _ _).symm.trans H;rw [hy135];with_reducible exact H2_)|(have H2_:=(Option.bind_some _ _).symm.trans H;with_reducible exact H2_)|with_reducible exact H|(rw [hy135];exact H)|exact H
      have Ny135:=Aside0.mk hy135;clear hy135;have H':=Aside0.mk H;clear H;obtain ⟨hcz12_0,hcz12_1,hcz12_2,hcz12_3⟩:=kb4 BK131.out
      go_wp2_with (first|((with_reducible refine gate_builtin (b:=.append) (xs:=#[.tmp 14,.tmp 17]) rfl ?_);at_builtin;refine Kd.R_append (Kd.int .i64) (w0:=w) w.heap.size rfl (.tmp 14) (.tmp 17) 60 3 (.int .i64 0) 8 rfl Try.underlying60 info3 rfl (by decide) (by omega) v133 y132 a0_1 [.int .i64 a0_1] (fun _=>True) (fun _=>False) rfl rfl ?aP (fun _ hk=>hk.elim) ?aF ?aO ?aB ?aS ?aL ?_;(case aP=>exact rfl);(case aB=>exact (bl HB.out));(case aF=>exact (fun _ _=>trivial));(case aO=>exact (rk HO_3.out));(case aS=>exact (below_size (bl HB.out)));(case aL=>have:=LMc11.out;omega);intro v136 w13 ho hb hg hat;rw [← Ny135.out] at ho;have n_:=ai (Aside0.mk (blk_grown (g:=gb131) (o:=.cells #[.int .i64 a0_0,.int .i64 a0_1,.string a0_2,.slice A0_3 l0_3.length c0_3] 67 (0,0)) (bk BK131.out) hg (Kd.R_ne HO_3.out BK131.out (by decide)))) <| ai (Aside0.mk (hb)) <| Aside0.mk (ho);clear BK131 HB HO_3;obtain ⟨BK131,HB,HO137⟩:=n_;clear ho hb hg hat))
      go_meet
      case rel=>exact ⟨_,(y135),H',⟨by have:=HJ1.out;first|omega|exact Nat.le_refl _⟩,⟨rk HO137.out⟩,⟨bk BK131.out⟩,⟨bl HB.out⟩⟩
     ·rw [if_neg c11] at H
      exact absurd H (by simp)
    ·replace c10:=Bool.eq_false_iff.mpr c10
     subst c10;have H1:(spec_l9Slots.j1 kj1 y132 a0_0 a0_1 a0_2 l0_3) = some r:=by rw [if_neg (show ¬ (false = true) by decide)] at H;exact H
     clear H;have H:=H1;clear H1;have H':=Aside0.mk H;clear H
     go_wp2
     go_meet
     case rel=>exact ⟨_,(y132),H',⟨by have:=HJ1.out;first|omega|exact Nat.le_refl _⟩,⟨rk HO_3.out⟩,⟨bk BK131.out⟩,⟨bl HB.out⟩⟩
   case rest =>
    clear HC9;(try clear c1);(try clear p2);(try clear c5);(try clear c6);(try clear c6b0);(try clear c6b1);(try clear c6b2);(try clear c10);(try clear c11);(try clear hcz12_0);(try clear hcz12_1);(try clear hcz12_2);(try clear hcz12_3);(try clear hcz7_0);(try clear hcz7_1);(try clear hcz7_2);(try clear hcz7_3);(try clear hcz8_0);(try clear hcz8_1);(try clear hcz8_2);(try clear hcz8_3);(try clear hfz12_0);(try clear hfz12_1);(try clear hfz12_2);(try clear hfz12_3);(try clear hfz7_0);(try clear hfz7_1);(try clear hfz7_2);(try clear hfz7_3);(try clear hfz8_0);(try clear hfz8_1);(try clear hfz8_2);(try clear hfz8_3);(try clear p2);(try clear HO_3);(try clear BK131);(try clear HB);obtain ⟨kq,x3_8,HA,HJ8,HO_3,BK131,HB⟩:=hcut
    cases kq with
    | zero=>exact absurd HA.out (by simp [spec_l9Slots.j1])
    | succ kj8 =>
     have H:=HA.out;clear HA;simp only [spec_l9Slots.j1] at H;have H':=Aside0.mk H;clear H
     go_wp2
     go_loopg [3,4] kj8 (fun kq v3 v4 w'=>∃ (x3_3:List Int) (x4_3:Int),v4 = .int .i64 x4_3∧Aside0 (spec_l9Slots.l0 kq x3_3 x4_3 a0_0 a0_1 a0_2 l0_3 = some r)∧Aside0 (kq≤kj8)∧Aside0 (Kd.R (Kd.int .i64) 3 w' w.heap.size (fun _=>True) v3 x3_3)∧Aside0 (w'.heap[gb131]? = some (.cells #[.int .i64 a0_0,.int .i64 a0_1,.string a0_2,(.slice A0_3 l0_3.length c0_3)] 67 (0,0)))∧Aside0 (Below w.heap.size w w'))
     case atStart=>exact ⟨(x3_8),(0),(cl2),H',⟨Nat.le_refl _⟩,⟨rk HO_3.out⟩,⟨bk BK131.out⟩,⟨bl HB.out⟩⟩
     case round =>
      clear H';(try clear c1);(try clear p2);(try clear c5);(try clear c6);(try clear c6b0);(try clear c6b1);(try clear c6b2);(try clear c10);(try clear c11);(try clear hcz12_0);(try clear hcz12_1);(try clear hcz12_2);(try clear hcz12_3);(try clear hcz7_0);(try clear hcz7_1);(try clear hcz7_2);(try clear hcz7_3);(try clear hcz8_0);(try clear hcz8_1);(try clear hcz8_2);(try clear hcz8_3);(try clear hfz12_0);(try clear hfz12_1);(try clear hfz12_2);(try clear hfz12_3);(try clear hfz7_0);(try clear hfz7_1);(try clear hfz7_2);(try clear hfz7_3);(try clear hfz8_0);(try clear hfz8_1);(try clear hfz8_2);(try clear hfz8_3);(try clear p2);(try clear HO_3);(try clear BK131);(try clear HB);obtain ⟨x3_3,x4_3,rfl,HA,HK3,HO_3,BK131,HB⟩:=hrel
      cases gk with
      | zero=>exact absurd HA.out (by simp [spec_l9Slots.l0])
      | succ k3 =>
       have H:=HA.out;clear HA;simp only [spec_l9Slots.l0] at H
       by_cases c14:x4_3 < (l0_3.length:Int)
       ·rw [if_pos c14] at H
        have c14b0:decide (x4_3 < (l0_3.length:Int)) = true:=decide_eq_true c14;clear c14
        by_cases c15:0≤x4_3
        ·rw [if_pos c15] at H
         have c15b0:decide (0≤x4_3) = true:=decide_eq_true c15;clear c15;replace H:=Option.bind_eq_some_iff.mp H;obtain ⟨t139,A160,H⟩:=H;replace H:(if x3_3.length + t139.length < 17592186044416 then (spec_l9Slots.l0 k3 (x3_3 ++ t139) (wrap64 (x4_3 + 1)) a0_0 a0_1 a0_2 l0_3) else (none)) = some r:=H;have A16:=Aside0.mk A160;clear A160
         by_cases c17:x3_3.length + t139.length < 17592186044416
         ·rw [if_pos c17] at H
          have LMc17:=Aside0.mk c17;clear c17;obtain ⟨y142,hy142⟩:∃ y_:List Int,y_ = (x3_3 ++ t139):=⟨_,rfl⟩;replace H:(spec_l9Slots.l0 k3 y142 (wrap64 (x4_3 + 1)) a0_0 a0_1 a0_2 l0_3) = some r:=by first|(rw [hy142];with_reducible exact H)|(have H2_:=(Option.bind_some _ _).symm.trans H;rw [hy142];with_reducible exact H2_)|(have H2_:=(Option.bind_some _ _).symm.trans H;with_reducible exact H2_)|with_reducible exact H|(rw [hy142];exact H)|exact H
          have Ny142:=Aside0.mk hy142;clear hy142;have H':=Aside0.mk H;clear H;obtain ⟨hcz18_0,hcz18_1,hcz18_2,hcz18_3⟩:=kb4 BK131.out;have p138:0≤(x4_3:Int):=od;have q138:x4_3 < (l0_3.length:Int):=od;obtain ⟨ad138,A138_3,c138_3,e138,hx138_0,hx138_1,hx138_2,hx138_3,hl138_3,hi138_3⟩:=at_T67 HR0_3.out x4_3 p138 q138;cases e138;replace hx138_0:=cb HB hx138_0;replace hx138_1:=cb HB hx138_1;replace hx138_2:=cb HB hx138_2;replace hx138_3:=cb HB hx138_3;have HR138_3:=Aside0.mk hi138_3;have HC138_3:=Aside0.mk hl138_3;clear hi138_3 hl138_3;replace p138:=eq_true p138;replace q138:=eq_true q138
          go_wp2_with (first|((with_reducible refine gate_callee (f:=51) rfl ?_);refine goesL_ (some 32) rfl rfl Try.func51 (by kernel_rfl) rfl #[.agg #[.int .i64 ((rd_T67 l0_3 x4_3).f0),.int .i64 ((rd_T67 l0_3 x4_3).f1),.string ((rd_T67 l0_3 x4_3).f2),.slice A138_3 ((rd_T67 l0_3 x4_3).f3).length c138_3]] rfl gs ?_;(with_reducible refine (ih k3 (by have:=HJ1.out;have:=HJ8.out;have:=HK3.out;omega) ((rd_T67 l0_3 x4_3).f0) ((rd_T67 l0_3 x4_3).f1) ((rd_T67 l0_3 x4_3).f2) _ _ ((rd_T67 l0_3 x4_3).f3) t139 _ ?side1 ?side2 A16.out).mono ?_);(case side1=>exact ck (Kd.C_below HR138_3.out HB.out));(case side2=>exact HC138_3.out);rintro e w19 ⟨v140,rfl,ho0,hb⟩;refine ⟨_,rfl,?_⟩;have n_:=ai (Aside0.mk (Kd.R_elder' (rk HO_3.out) (Kd.R_base ho0) hb)) <| ai (Aside0.mk (Kd.R_lower (Kd.R_new' ho0 (Kd.R_lt (rk HO_3.out))) (below_size (bl HB.out)))) <| ai (bw BK131 hb) <| bq HB hb;clear HO_3 BK131 HB;obtain ⟨HO_3,HO141,BK131,HB⟩:=n_;(try clear hb);(try clear hb2);(try clear hk);(try clear hi);(try clear ho0);obtain ⟨Ao21,co21,eo21⟩:=Kd.R_slice HO141.out;subst eo21)|((with_reducible refine gate_builtin (b:=.append) (xs:=#[.tmp 26,.tmp 32]) rfl ?_);at_builtin;refine Kd.R_append_rows (Kd.int .i64) (w0:=w) w.heap.size rfl (.tmp 26) (.tmp 32) 60 3 (.int .i64 0) 8 rfl Try.underlying60 info3 rfl (by decide) (by omega) u3 x3_3 t139 _ _ _ (fun k_=>some k_≠(.slice Ao21 t139.length co21:Value).ownBlock) (fun _=>False) rfl rfl ?aO ?aR (fun _ _ h=>h) (fun _ h=>h.elim) ?aF ?aB ?aS ?aL ?_;(case aR=>repeat (first|exact (Kd.R_reads' HO141.out).2.2|(with_reducible refine Kd.C_alloc ?_ _)|(with_reducible refine Kd.C_drewN ?_ _)|(with_reducible refine Kd.C_drew ?_)));(case aB=>exact (bl HB.out));(case aF=>exact (fun k_ hk=>Kd.fresh' (Kd.R_lt (rk HO141.out)) k_ hk));(case aO=>exact (by (with_reducible repeat (first|apply Kd.R_alloc|apply Kd.R_drewN|apply Kd.R_drew));exact Kd.R_mono HO_3.out (fun _ hk=>hk.2)));(case aS=>exact (below_size (bl HB.out)));(case aL=>have:=LMc17.out;omega);intro v143 w20 ho hb hg hat;rw [← Ny142.out] at ho;have n_:=ai (Aside0.mk (blk_grown (g:=gb131) (o:=.cells #[.int .i64 a0_0,.int .i64 a0_1,.string a0_2,.slice (some ad138) l0_3.length c0_3] 67 (0,0)) (bk BK131.out) hg (Kd.R_ne HO_3.out BK131.out (by decide)))) <| ai (Aside0.mk (Kd.R_after (ok:=(fun _=>True)) (rk HO141.out) hg hat)) <| ai (Aside0.mk (hb)) <| Aside0.mk (ho);clear BK131 HO141 HB HO_3;obtain ⟨BK131,HO141,HB,HO144⟩:=n_;clear ho hb hg hat))
          go_roundg k3
          case measure=>have:=HJ1.out;have:=HJ8.out;have:=HK3.out;omega
          case rel=>exact ⟨(y142),(wrap64 (x4_3 + 1)),(cl2),H',⟨by have:=HJ1.out;have:=HJ8.out;have:=HK3.out;omega⟩,⟨by (with_reducible repeat (first|apply Kd.R_alloc|apply Kd.R_drewN|apply Kd.R_drew));exact Kd.R_mono HO144.out (fun _ hk=>trivial)⟩,⟨bk BK131.out⟩,⟨bl HB.out⟩⟩
         ·rw [if_neg c17] at H
          exact absurd H (by simp)
        ·rw [if_neg c15] at H
         exact absurd H (by simp)
       ·rw [if_neg c14] at H
        have c14b0:decide (x4_3 < (l0_3.length:Int)) = false:=decide_eq_false c14;clear c14;obtain rfl:=Option.some.inj H;obtain ⟨hcz22_0,hcz22_1,hcz22_2,hcz22_3⟩:=kb4 BK131.out
        go_wp2
        go_ret
        exact ⟨_,cl,rk HO_3.out,bl HB.out⟩

end Go.Proofs.Ytghhbdmjafedbaa.QFnExactCodeOk
