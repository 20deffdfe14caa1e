-- Written by a program of this workplace (print2.py) for this claim, over the print's words.
import Derived.Test.YtbdbbgiglojnfaaQFnOperatedx0
import Derived.Test.YtbdbbgiglojnfaaQFnOperatedx8
namespace Go.Proofs.Ytbdbbgiglojnfaa.QFnOperated
open Go.RowKit Go.Proofs.YtbdbbgiglojnfaaW.PrintWords Go.Proofs.YtbdbbgiglojnfaaW.PrintLast Go.Proofs.YtbdbbgiglojnfaaW.PrintMore
attribute [local go_sem] binOp_string_gtr max2_int min2_int max_two min_two max_three min_three max_four min_four   -- for this text's walks alone
set_option linter.unusedVariables false
set_option linter.unusedSimpArgs false

/-! ### spec_l2Look: function 21 -/
mutual
def spec_l2Look.j0:Nat → Int → Int → Bool → Int → Int → ByteArray → List (S26) → Option (Int)
 | 0,_,_,_,_,_,_,_=>none
 | k + 1,x1,x2,x18,x391000,x391001,x391002,x391003=>if x18 = true then (some (-1)) else (spec_l2Look.l0 k x1 (wrap64 (x2 - 1)) 0 x391000 x391001 x391002 x391003)
def spec_l2Look.l0:Nat → Int → Int → Int → Int → Int → ByteArray → List (S26) → Option (Int)
 | 0,_,_,_,_,_,_,_=>none
 | k + 1,x1,x2,x7,x391000,x391001,x391002,x391003=>if x7 < (x391003.length:Int) then (if x2 ≥ 0 then (if 0≤x7 then ((spec_l2Look.f k ((rd_T26 x391003 x7).f0) ((rd_T26 x391003 x7).f1) ((rd_T26 x391003 x7).f2) ((rd_T26 x391003 x7).f3) (wrap64 (x1 - 1)) x2).bind fun t393=>(spec_l2Look.l0 k x1 t393 (wrap64 (x7 + 1)) x391000 x391001 x391002 x391003)) else (none)) else (some x2)) else (some x2)
def spec_l2Look.f:Nat → Int → Int → ByteArray → List (S26) → Int → Int → Option (Int)
 | 0,_,_,_,_,_,_=>none
 | k + 1,a0_0,a0_1,a0_2,l0_3,a1,a2=>if a1 < 1 then (spec_l2Look.j0 k a1 a2 true a0_0 a0_1 a0_2 l0_3) else (if a2 < 1 then (spec_l2Look.j0 k a1 a2 true a0_0 a0_1 a0_2 l0_3) else ((spec_l2Shape.f k a0_0 a0_1 a0_2 l0_3).bind fun t391=>(spec_l2Look.j0 k a1 a2 (!t391) a0_0 a0_1 a0_2 l0_3)))
end
theorem spec_l2Look.mono_l:∀ k,(∀ y0 y1 y2 y3 y4 y5,LeO (spec_l2Look.f k y0 y1 y2 y3 y4 y5) (spec_l2Look.f (k + 1) y0 y1 y2 y3 y4 y5))∧(∀ y0 y1 y2 y3 y4 y5 y6,LeO (spec_l2Look.j0 k y0 y1 y2 y3 y4 y5 y6) (spec_l2Look.j0 (k + 1) y0 y1 y2 y3 y4 y5 y6))∧(∀ y0 y1 y2 y3 y4 y5 y6,LeO (spec_l2Look.l0 k y0 y1 y2 y3 y4 y5 y6) (spec_l2Look.l0 (k + 1) y0 y1 y2 y3 y4 y5 y6))
 | 0=>⟨fun _ _ _ _ _ _ r h=>by simp [spec_l2Look.f] at h,fun _ _ _ _ _ _ _ r h=>by simp [spec_l2Look.j0] at h,fun _ _ _ _ _ _ _ r h=>by simp [spec_l2Look.l0] at h⟩
 | k + 1=>by
  obtain ⟨ih0,ih1,ih2⟩:=spec_l2Look.mono_l k
  refine ⟨?_,?_,?_⟩
  ·intro y0 y1 y2 y3 y4 y5
   unfold spec_l2Look.f
   with_reducible repeat' first|apply ih0|apply ih1|apply ih2|apply spec_l2Shape.mono|apply LeO.refl|apply LeO.none|apply LeO.ite|refine LeO.bind ?_ (fun _=>?_)
  ·intro y0 y1 y2 y3 y4 y5 y6
   unfold spec_l2Look.j0
   with_reducible repeat' first|apply ih0|apply ih1|apply ih2|apply spec_l2Shape.mono|apply LeO.refl|apply LeO.none|apply LeO.ite|refine LeO.bind ?_ (fun _=>?_)
  ·intro y0 y1 y2 y3 y4 y5 y6
   unfold spec_l2Look.l0
   with_reducible repeat' first|apply ih0|apply ih1|apply ih2|apply spec_l2Shape.mono|apply LeO.refl|apply LeO.none|apply LeO.ite|refine LeO.bind ?_ (fun _=>?_)
theorem spec_l2Look.mono:∀ a0 a1 a2 a3 a4 a5 k,LeO (spec_l2Look.f k a0 a1 a2 a3 a4 a5) (spec_l2Look.f (k + 1) a0 a1 a2 a3 a4 a5):=by
 intro a0 a1 a2 a3 a4 a5 k;obtain ⟨ih0,ih1,ih2⟩:=spec_l2Look.mono_l k
 exact ih0 a0 a1 a2 a3 a4 a5
set_option maxHeartbeats 8000000 in
set_option maxRecDepth 100000 in
theorem spec_l2Look.calls (k:Nat):∀ (a0_0:Int) (a0_1:Int) (a0_2:ByteArray) (A0_3:Option Addr) (c0_3:Nat) (l0_3:List (S26)) (a1:Int) (a2:Int) (r:Int) (w:World) (hr0_3:Kd.C k26 w A0_3 l0_3.length l0_3) (hc0_3:l0_3.length≤c0_3) (h:spec_l2Look.f k a0_0 a0_1 a0_2 l0_3 a1 a2 = some r),
  Calls Try.prog 21 #[.agg #[.int .i64 a0_0,.int .i64 a0_1,.string a0_2,.slice A0_3 l0_3.length c0_3],.int .i64 a1,.int .i64 a2] w fun e w'=>e = .returned (.int .i64 r)∧Below w.heap.size w w':=by
 induction k using Nat.strongRecOn with
 | _ k ih =>
 intro a0_0 a0_1 a0_2 A0_3 c0_3 l0_3 a1 a2 r w hr0_3 hc0_3 h
 cases k with
 | zero=>exact absurd h (by simp [spec_l2Look.f])
 | succ k =>
 simp only [spec_l2Look.f] at h;have hu26:=Try.underlying26;have HR0_3:=Aside0.mk hr0_3;have HC0_3:=Aside0.mk hc0_3;clear hr0_3 hc0_3;have HB:=Aside0.mk (Below.refl w.heap.size w);have H:(if a1 < 1 then (spec_l2Look.j0 k a1 a2 true a0_0 a0_1 a0_2 l0_3) else (if a2 < 1 then (spec_l2Look.j0 k a1 a2 true a0_0 a0_1 a0_2 l0_3) else ((spec_l2Shape.f k a0_0 a0_1 a0_2 l0_3).bind fun t391=>(spec_l2Look.j0 k a1 a2 (!t391) a0_0 a0_1 a0_2 l0_3)))) = some r:=h;clear h;have HC4:=Aside0.mk H;clear H
 go_enter Try.func21,Try.ntmps21
 go_upto_region 1 with (first|((with_reducible refine gate_dst (N:=3) rfl ?_);refine box_event ?hg (N:=3) ?hd (cs:=#[.int .i64 a0_0,.int .i64 a0_1,.string a0_2,.slice A0_3 l0_3.length c0_3]) (t:=26) ?hr ?_;(case hd=>rfl);(case hg=>rfl);(case hr=>first|(go_simp;done)|(go_simp;rfl));intro gb390 hg w5 hbox hb;have n_:=ai (bq HB hb) <| ai (Aside0.mk (hbox)) <| ai (bz hg HB) <| bz hg HB;clear HB;obtain ⟨HB,BK390,GW390,GE390⟩:=n_;clear hb hbox hg))
 (try simp only [Act.put,List.setIfInBounds_toArray,List.set_cons_zero,List.set_cons_succ])
 go_cut [18] (fun v18 wc=>∃ (kq:Nat) (x18_3:Bool),v18 = .bool x18_3∧Aside0 (spec_l2Look.j0 kq a1 a2 x18_3 a0_0 a0_1 a0_2 l0_3 = some r)∧Aside0 (kq≤k)∧Aside0 (wc.heap[gb390]? = some (.cells #[.int .i64 a0_0,.int .i64 a0_1,.string a0_2,(.slice A0_3 l0_3.length c0_3)] 26 (0,0)))∧Aside0 (Below w.heap.size w wc))
 case first =>
  have H:=HC4.out;clear HC4
  by_cases c6:a1 < 1
  ·rw [if_pos c6] at H
   have c6b0:decide (a1 < 1) = true:=decide_eq_true c6;clear c6
   (first|rw [c6b0]|(simp only [i64_w,i32_w];rw [c6b0])|(simp only [c6b2,Bool.not_true,Bool.not_false])|skip)
   have H':=Aside0.mk H;clear H
   go_wp2
   go_meet
   case rel=>exact ⟨_,(true),(cl2),H',⟨by first|omega|exact Nat.le_refl _⟩,⟨bk BK390.out⟩,⟨bl HB.out⟩⟩
  ·rw [if_neg c6] at H
   have c6b0:decide (a1 < 1) = false:=decide_eq_false c6;clear c6
   (first|rw [c6b0]|(simp only [i64_w,i32_w];rw [c6b0])|(simp only [c6b2,Bool.not_true,Bool.not_false])|skip)
   by_cases c7:a2 < 1
   ·rw [if_pos c7] at H
    have c7b0:decide (a2 < 1) = true:=decide_eq_true c7;clear c7;have H':=Aside0.mk H;clear H
    go_wp2
    go_meet
    case rel=>exact ⟨_,(true),(cl2),H',⟨by first|omega|exact Nat.le_refl _⟩,⟨bk BK390.out⟩,⟨bl HB.out⟩⟩
   ·rw [if_neg c7] at H
    have c7b0:decide (a2 < 1) = false:=decide_eq_false c7;clear c7;replace H:=Option.bind_eq_some_iff.mp H;obtain ⟨t391,A80,H⟩:=H;replace H:(spec_l2Look.j0 k a1 a2 (!t391) a0_0 a0_1 a0_2 l0_3) = some r:=H;have A8:=Aside0.mk A80;clear A80;have H':=Aside0.mk H;clear H;obtain ⟨h9_0,h9_1,h9_2,h9_3⟩:=kb4 BK390.out
    go_wp2_with (first|(go_at_call 35;(with_reducible refine (spec_l2Shape.calls k a0_0 a0_1 a0_2 _ _ l0_3 t391 _ ?side1 ?side2 A8.out).mono ?_);(case side1=>exact ck (Kd.C_below HR0_3.out HB.out));(case side2=>exact HC0_3.out);rintro e w10 ⟨rfl,hb⟩;have n_:=ai (bw BK390 hb) <| bq HB hb;clear BK390 HB;obtain ⟨BK390,HB⟩:=n_;(try clear hb);(try clear hi)))
    go_meet
    case rel=>exact ⟨_,(!t391),(cl2),H',⟨by first|omega|exact Nat.le_refl _⟩,⟨bk BK390.out⟩,⟨bl HB.out⟩⟩
 case rest =>
  clear HC4;(try clear BK390);(try clear HB);obtain ⟨kq,x18_3,rfl,HA,HJ3,BK390,HB⟩:=hcut
  cases kq with
  | zero=>exact absurd HA.out (by simp [spec_l2Look.j0])
  | succ kj3 =>
   have H:=HA.out;clear HA;simp only [spec_l2Look.j0] at H
   by_cases c11:x18_3 = true
   ·subst c11
    have H1:(some (-1)) = some r:=by rw [if_pos rfl] at H;exact H
    clear H;have H:=H1;clear H1;obtain rfl:=Option.some.inj H
    go_wp2
    go_ret
    exact ⟨cl,bl HB.out⟩
   ·replace c11:=Bool.eq_false_iff.mpr c11
    subst c11;have H1:(spec_l2Look.l0 kj3 a1 (wrap64 (a2 - 1)) 0 a0_0 a0_1 a0_2 l0_3) = some r:=by rw [if_neg (show ¬ (false = true) by decide)] at H;exact H
    clear H;have H:=H1;clear H1;have H':=Aside0.mk H;clear H
    go_wp2
    go_loopg [2,7] kj3 (fun kq v2 v7 w'=>∃ (x2_2:Int) (x7_2:Int),v2 = .int .i64 x2_2∧v7 = .int .i64 x7_2∧Aside0 (spec_l2Look.l0 kq a1 x2_2 x7_2 a0_0 a0_1 a0_2 l0_3 = some r)∧Aside0 (kq≤kj3)∧Aside0 (w'.heap[gb390]? = some (.cells #[.int .i64 a0_0,.int .i64 a0_1,.string a0_2,(.slice A0_3 l0_3.length c0_3)] 26 (0,0)))∧Aside0 (Below w.heap.size w w'))
    case atStart=>exact ⟨(wrap64 (a2 - 1)),(0),(cl2),(cl2),H',⟨Nat.le_refl _⟩,⟨bk BK390.out⟩,⟨bl HB.out⟩⟩
    case round =>
     clear H';(try clear c11);(try clear p2);(try clear BK390);(try clear HB);obtain ⟨x2_2,x7_2,rfl,rfl,HA,HK2,BK390,HB⟩:=hrel
     cases gk with
     | zero=>exact absurd HA.out (by simp [spec_l2Look.l0])
     | succ k2 =>
      have H:=HA.out;clear HA;simp only [spec_l2Look.l0] at H
      by_cases c12:x7_2 < (l0_3.length:Int)
      ·rw [if_pos c12] at H
       have c12b0:decide (x7_2 < (l0_3.length:Int)) = true:=decide_eq_true c12;clear c12
       by_cases c13:x2_2 ≥ 0
       ·rw [if_pos c13] at H
        have c13b0:decide (0≤x2_2) = true:=decide_eq_true c13;clear c13
        by_cases c14:0≤x7_2
        ·rw [if_pos c14] at H
         have c14b0:decide (0≤x7_2) = true:=decide_eq_true c14;clear c14;replace H:=Option.bind_eq_some_iff.mp H;obtain ⟨t393,A150,H⟩:=H;replace H:(spec_l2Look.l0 k2 a1 t393 (wrap64 (x7_2 + 1)) a0_0 a0_1 a0_2 l0_3) = some r:=H;have A15:=Aside0.mk A150;clear A150;have H':=Aside0.mk H;clear H;obtain ⟨h16_0,h16_1,h16_2,h16_3⟩:=kb4 BK390.out;have p392:0≤(x7_2:Int):=od;have q392:x7_2 < (l0_3.length:Int):=od;obtain ⟨ad392,A392_3,c392_3,e392,hx392_0,hx392_1,hx392_2,hx392_3,hl392_3,hi392_3⟩:=at_T26 HR0_3.out x7_2 p392 q392;cases e392;replace hx392_0:=cb HB hx392_0;replace hx392_1:=cb HB hx392_1;replace hx392_2:=cb HB hx392_2;replace hx392_3:=cb HB hx392_3;have HR392_3:=Aside0.mk hi392_3;have HC392_3:=Aside0.mk hl392_3;clear hi392_3 hl392_3;replace p392:=eq_true p392;replace q392:=eq_true q392
         go_wp2_with (first|((with_reducible refine gate_callee (f:=21) rfl ?_);refine goesL_ (some 40) rfl rfl Try.func21 (by kernel_rfl) rfl #[.agg #[.int .i64 ((rd_T26 l0_3 x7_2).f0),.int .i64 ((rd_T26 l0_3 x7_2).f1),.string ((rd_T26 l0_3 x7_2).f2),.slice A392_3 ((rd_T26 l0_3 x7_2).f3).length c392_3],.int .i64 (wrap64 (a1 - 1)),.int .i64 x2_2] rfl gs ?_;(with_reducible refine (ih k2 (by have:=HJ3.out;have:=HK2.out;omega) ((rd_T26 l0_3 x7_2).f0) ((rd_T26 l0_3 x7_2).f1) ((rd_T26 l0_3 x7_2).f2) _ _ ((rd_T26 l0_3 x7_2).f3) (wrap64 (a1 - 1)) x2_2 t393 _ ?side1 ?side2 A15.out).mono ?_);(case side1=>exact ck (Kd.C_below HR392_3.out HB.out));(case side2=>exact HC392_3.out);rintro e w17 ⟨rfl,hb⟩;refine ⟨_,rfl,?_⟩;have n_:=ai (bw BK390 hb) <| bq HB hb;clear BK390 HB;obtain ⟨BK390,HB⟩:=n_;(try clear hb);(try clear hi)))
         go_roundg k2
         case measure=>have:=HJ3.out;have:=HK2.out;omega
         case rel=>exact ⟨(t393),(wrap64 (x7_2 + 1)),(cl2),(cl2),H',⟨by have:=HJ3.out;have:=HK2.out;omega⟩,⟨bk BK390.out⟩,⟨bl HB.out⟩⟩
        ·rw [if_neg c14] at H
         exact absurd H (by simp)
       ·rw [if_neg c13] at H
        have c13b0:decide (0≤x2_2) = false:=decide_eq_false c13;clear c13;obtain rfl:=Option.some.inj H;obtain ⟨h18_0,h18_1,h18_2,h18_3⟩:=kb4 BK390.out
        go_wp2
        go_ret
        exact ⟨cl,bl HB.out⟩
      ·rw [if_neg c12] at H
       have c12b0:decide (x7_2 < (l0_3.length:Int)) = false:=decide_eq_false c12;clear c12;obtain rfl:=Option.some.inj H;obtain ⟨h19_0,h19_1,h19_2,h19_3⟩:=kb4 BK390.out
       go_wp2
       go_ret
       exact ⟨cl,bl HB.out⟩

/-! ### spec_TermOk: function 8 -/
def spec_TermOk.f (k:Nat) (a0_0:Int) (a0_1:Int) (a0_2:ByteArray) (l0_3:List (S26)):Option (Bool):=(spec_l2Look.f k a0_0 a0_1 a0_2 l0_3 8 300).bind fun t395=>(some (decide (t395 ≥ 0)))
theorem spec_TermOk.mono:∀ a0 a1 a2 a3 k,LeO (spec_TermOk.f k a0 a1 a2 a3) (spec_TermOk.f (k + 1) a0 a1 a2 a3):=by
 intro a0 a1 a2 a3 k
 unfold spec_TermOk.f
 with_reducible repeat' first|apply spec_l2Look.mono|apply LeO.refl|apply LeO.none|apply LeO.ite|refine LeO.bind ?_ (fun _=>?_)
set_option maxHeartbeats 8000000 in
set_option maxRecDepth 100000 in
theorem spec_TermOk.calls (k:Nat) (a0_0:Int) (a0_1:Int) (a0_2:ByteArray) (A0_3:Option Addr) (c0_3:Nat) (l0_3:List (S26)) (r:Bool) (w:World) (hr0_3:Kd.C k26 w A0_3 l0_3.length l0_3) (hc0_3:l0_3.length≤c0_3) (h:spec_TermOk.f k a0_0 a0_1 a0_2 l0_3 = some r) :
  Calls Try.prog 8 #[.agg #[.int .i64 a0_0,.int .i64 a0_1,.string a0_2,.slice A0_3 l0_3.length c0_3]] w fun e w'=>e = .returned (.bool r)∧Below w.heap.size w w':=by
 have hu26:=Try.underlying26;have HR0_3:=Aside0.mk hr0_3;have HC0_3:=Aside0.mk hc0_3;clear hr0_3 hc0_3;have HB:=Aside0.mk (Below.refl w.heap.size w);have H:((spec_l2Look.f k a0_0 a0_1 a0_2 l0_3 8 300).bind fun t395=>(some (decide (t395 ≥ 0)))) = some r:=h;clear h;replace H:=Option.bind_eq_some_iff.mp H;obtain ⟨t395,A20,H⟩:=H;replace H:(some (decide (t395 ≥ 0))) = some r:=H;have A2:=Aside0.mk A20;clear A20;obtain rfl:=Option.some.inj H
 go_enter Try.func8,Try.ntmps8
 go_wp2_with (first|((with_reducible refine gate_dst (N:=1) rfl ?_);refine box_event ?hg (N:=1) ?hd (cs:=#[.int .i64 a0_0,.int .i64 a0_1,.string a0_2,.slice A0_3 l0_3.length c0_3]) (t:=26) ?hr ?_;(case hd=>rfl);(case hg=>rfl);(case hr=>first|(go_simp;done)|(go_simp;rfl));intro gb394 hg w3 hbox hb;have n_:=ai (bq HB hb) <| ai (Aside0.mk (hbox)) <| ai (bz hg HB) <| bz hg HB;clear HB;obtain ⟨HB,BK394,GW394,GE394⟩:=n_;clear hb hbox hg;obtain ⟨h4_0,h4_1,h4_2,h4_3⟩:=kb4 BK394.out;obtain ⟨z4_0,z4_1,z4_2,z4_3⟩:=kz4 BK394.out)|((with_reducible refine gate_callee (f:=21) rfl ?_);refine goesL_ (some 4) rfl rfl Try.func21 (by kernel_rfl) rfl #[.agg #[.int .i64 a0_0,.int .i64 a0_1,.string a0_2,.slice A0_3 l0_3.length c0_3],.int .i64 8,.int .i64 300] rfl gs ?_;(with_reducible refine (spec_l2Look.calls k a0_0 a0_1 a0_2 _ _ l0_3 8 300 t395 _ ?side1 ?side2 A2.out).mono ?_);(case side1=>exact ck (Kd.C_below HR0_3.out HB.out));(case side2=>exact HC0_3.out);rintro e w5 ⟨rfl,hb⟩;refine ⟨_,rfl,?_⟩;have n_:=ai (bw BK394 hb) <| bq HB hb;clear BK394 HB;obtain ⟨BK394,HB⟩:=n_;(try clear hb);(try clear hi)))
 go_ret
 exact ⟨cl,bl HB.out⟩

/-! ### spec_l4Op: function 19 -/
def spec_l4Op.f (a0:ByteArray):Option (Bool):=if a0.toList = ([43]:List UInt8) then (some true) else (if a0.toList = ([45]:List UInt8) then (some true) else (if a0.toList = ([42]:List UInt8) then (some true) else (if a0.toList = ([61,61]:List UInt8) then (some true) else (some (a0.toList == ([60]:List UInt8))))))
set_option maxHeartbeats 8000000 in
set_option maxRecDepth 100000 in
theorem spec_l4Op.calls (a0:ByteArray) (r:Bool) (w:World) (h:spec_l4Op.f a0 = some r) :
  Calls Try.prog 19 #[.string a0] w fun e w'=>e = .returned (.bool r)∧Drawn0 w w':=by
 have H:(if a0.toList = ([43]:List UInt8) then (some true) else (if a0.toList = ([45]:List UInt8) then (some true) else (if a0.toList = ([42]:List UInt8) then (some true) else (if a0.toList = ([61,61]:List UInt8) then (some true) else (some (a0.toList == ([60]:List UInt8))))))) = some r:=h;clear h
 by_cases c2:a0.toList = ([43]:List UInt8)
 ·rw [if_pos c2] at H
  have c2b0:(a0.toList == ([43]:List UInt8)) = true:=beq_iff_eq.mpr c2;have c2b1:(a0.toList != ([43]:List UInt8)) = false:=bne_eq_false_iff_eq.mpr c2;clear c2;obtain rfl:=Option.some.inj H
  go_enter Try.func19,Try.ntmps19
  go_wp2
  go_ret
  exact ⟨cl2,by repeat (first|exact Drawn0.refl _|apply Drawn0.step)⟩
 ·rw [if_neg c2] at H
  have c2b0:(a0.toList == ([43]:List UInt8)) = false:=beq_eq_false_iff_ne.mpr c2;have c2b1:(a0.toList != ([43]:List UInt8)) = true:=bne_iff_ne.mpr c2
  by_cases c3:a0.toList = ([45]:List UInt8)
  ·rw [if_pos c3] at H
   have c3b0:(a0.toList == ([45]:List UInt8)) = true:=beq_iff_eq.mpr c3;have c3b1:(a0.toList != ([45]:List UInt8)) = false:=bne_eq_false_iff_eq.mpr c3;clear c3;obtain rfl:=Option.some.inj H
   go_enter Try.func19,Try.ntmps19
   go_wp2
   go_ret
   exact ⟨cl2,by repeat (first|exact Drawn0.refl _|apply Drawn0.step)⟩
  ·rw [if_neg c3] at H
   have c3b0:(a0.toList == ([45]:List UInt8)) = false:=beq_eq_false_iff_ne.mpr c3;have c3b1:(a0.toList != ([45]:List UInt8)) = true:=bne_iff_ne.mpr c3
   by_cases c4:a0.toList = ([42]:List UInt8)
   ·rw [if_pos c4] at H
    have c4b0:(a0.toList == ([42]:List UInt8)) = true:=beq_iff_eq.mpr c4;have c4b1:(a0.toList != ([42]:List UInt8)) = false:=bne_eq_false_iff_eq.mpr c4;clear c4;obtain rfl:=Option.some.inj H
    go_enter Try.func19,Try.ntmps19
    go_wp2
    go_ret
    exact ⟨cl2,by repeat (first|exact Drawn0.refl _|apply Drawn0.step)⟩
   ·rw [if_neg c4] at H
    have c4b0:(a0.toList == ([42]:List UInt8)) = false:=beq_eq_false_iff_ne.mpr c4;have c4b1:(a0.toList != ([42]:List UInt8)) = true:=bne_iff_ne.mpr c4
    by_cases c5:a0.toList = ([61,61]:List UInt8)
    ·rw [if_pos c5] at H
     have c5b0:(a0.toList == ([61,61]:List UInt8)) = true:=beq_iff_eq.mpr c5;have c5b1:(a0.toList != ([61,61]:List UInt8)) = false:=bne_eq_false_iff_eq.mpr c5;clear c5;obtain rfl:=Option.some.inj H
     go_enter Try.func19,Try.ntmps19
     go_wp2
     go_ret
     exact ⟨cl2,by repeat (first|exact Drawn0.refl _|apply Drawn0.step)⟩
    ·rw [if_neg c5] at H
     have c5b0:(a0.toList == ([61,61]:List UInt8)) = false:=beq_eq_false_iff_ne.mpr c5;have c5b1:(a0.toList != ([61,61]:List UInt8)) = true:=bne_iff_ne.mpr c5;obtain rfl:=Option.some.inj H
     go_enter Try.func19,Try.ntmps19
     go_wp2
     go_ret
     exact ⟨cl2,by repeat (first|exact Drawn0.refl _|apply Drawn0.step)⟩

/-! ### spec_l8Bool: function 30 -/
def spec_l8Bool.f (a0:Bool):Option (Int × Int × ByteArray × (List (S26))):=if a0 = true then (some (2,0,(⟨#[116,114,117,101]⟩:ByteArray),([]:List (S26)))) else (some (2,0,(⟨#[102,97,108,115,101]⟩:ByteArray),([]:List (S26))))
set_option maxHeartbeats 8000000 in
set_option maxRecDepth 100000 in
theorem spec_l8Bool.calls (a0:Bool) (r1:Int) (r2:Int) (r3:ByteArray) (r4:List (S26)) (w:World) (h:spec_l8Bool.f a0 = some (r1,r2,r3,r4)) :
  Calls Try.prog 30 #[.bool a0] w fun e w'=>∃ v3_:Value,e = .returned (.agg #[.int .i64 r1,.int .i64 r2,.string r3,v3_])∧Kd.R k26 26 w' w.heap.size (fun _=>True) v3_ r4∧Below w.heap.size w w':=by
 have hu26:=Try.underlying26;have HB:=Aside0.mk (Below.refl w.heap.size w);have H:(if a0 = true then (some (2,0,(⟨#[116,114,117,101]⟩:ByteArray),([]:List (S26)))) else (some (2,0,(⟨#[102,97,108,115,101]⟩:ByteArray),([]:List (S26))))) = some (r1,r2,r3,r4):=h;clear h
 by_cases c2:a0 = true
 ·subst c2
  have H1:(some (2,0,(⟨#[116,114,117,101]⟩:ByteArray),([]:List (S26)))) = some (r1,r2,r3,r4):=by rw [if_pos rfl] at H;exact H
  clear H;have H:=H1;clear H1;simp only [Option.some.injEq,Prod.mk.injEq] at H;obtain ⟨rfl,rfl,rfl,rfl⟩:=H
  go_enter Try.func30,Try.ntmps30
  go_wp2_with (first|((with_reducible refine gate_dst (N:=2) rfl ?_);refine box_event ?hg (N:=2) ?hd (cs:=#[.int .i64 0,.int .i64 0,.string (⟨#[]⟩:ByteArray),.slice none 0 0]) (t:=26) ?hr ?_;(case hd=>rfl);(case hg=>rfl);(case hr=>first|(go_simp;done)|(go_simp;rfl));intro gb396 hg w3 hbox hb;have n_:=ai (bq HB hb) <| ai (Aside0.mk (hbox)) <| ai (bz hg HB) <| bz hg HB;clear HB;obtain ⟨HB,BK396,GW396,GE396⟩:=n_;clear hb hbox hg;obtain ⟨h4_0,h4_1,h4_2,h4_3⟩:=kb4 BK396.out;obtain ⟨z4_0,z4_1,z4_2,z4_3⟩:=kz4 BK396.out))
  refine bodyPost_ret (results_cell_row rfl _ _ gb396 26 #[.int .i64 2,.int .i64 0,.string (⟨#[116,114,117,101]⟩:ByteArray),.slice none 0 0] (0,0) _ rfl (bmp BK396.out) Try.underlying26 rfl (by kernel_rfl)) rfl ?_
  exact ⟨_,cl,by first|exact Kd.R_nil _ _ _ _ _|exact Kd.N_nil _ _ _ _ _|exact Kd.V_nil _ _ _ _ _|exact Kd.Q_nil _ _ _ _ _|exact Kd.S_nil _ _ _ _ _,bl HB.out⟩
 ·replace c2:=Bool.eq_false_iff.mpr c2
  subst c2;have H1:(some (2,0,(⟨#[102,97,108,115,101]⟩:ByteArray),([]:List (S26)))) = some (r1,r2,r3,r4):=by rw [if_neg (show ¬ (false = true) by decide)] at H;exact H
  clear H;have H:=H1;clear H1;simp only [Option.some.injEq,Prod.mk.injEq] at H;obtain ⟨rfl,rfl,rfl,rfl⟩:=H
  go_enter Try.func30,Try.ntmps30
  go_wp2_with (first|((with_reducible refine gate_dst (N:=2) rfl ?_);refine box_event ?hg (N:=2) ?hd (cs:=#[.int .i64 0,.int .i64 0,.string (⟨#[]⟩:ByteArray),.slice none 0 0]) (t:=26) ?hr ?_;(case hd=>rfl);(case hg=>rfl);(case hr=>first|(go_simp;done)|(go_simp;rfl));intro gb396 hg w5 hbox hb;have n_:=ai (bq HB hb) <| ai (Aside0.mk (hbox)) <| ai (bz hg HB) <| bz hg HB;clear HB;obtain ⟨HB,BK396,GW396,GE396⟩:=n_;clear hb hbox hg;obtain ⟨h6_0,h6_1,h6_2,h6_3⟩:=kb4 BK396.out;obtain ⟨z6_0,z6_1,z6_2,z6_3⟩:=kz4 BK396.out))
  refine bodyPost_ret (results_cell_row rfl _ _ gb396 26 #[.int .i64 2,.int .i64 0,.string (⟨#[102,97,108,115,101]⟩:ByteArray),.slice none 0 0] (0,0) _ rfl (bmp BK396.out) Try.underlying26 rfl (by kernel_rfl)) rfl ?_
  exact ⟨_,cl,by first|exact Kd.R_nil _ _ _ _ _|exact Kd.N_nil _ _ _ _ _|exact Kd.V_nil _ _ _ _ _|exact Kd.Q_nil _ _ _ _ _|exact Kd.S_nil _ _ _ _ _,bl HB.out⟩

end Go.Proofs.Ytbdbbgiglojnfaa.QFnOperated
