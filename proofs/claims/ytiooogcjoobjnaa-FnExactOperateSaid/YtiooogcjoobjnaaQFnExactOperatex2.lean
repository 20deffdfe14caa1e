-- Written by a program of this workplace (print2.py) for this claim, over the print's words.
import Derived.Test.YtiooogcjoobjnaaQFnExactOperatex0
import Derived.Test.YtiooogcjoobjnaaQFnExactOperatex1
namespace Go.Proofs.Ytiooogcjoobjnaa.QFnExactOperate
open Go.RowKit Go.Proofs.YtiooogcjoobjnaaW.PrintWords Go.Proofs.YtiooogcjoobjnaaW.PrintLast Go.Proofs.YtiooogcjoobjnaaW.PrintMore
attribute [local go_sem] binOp_string_gtr max2_int min2_int max_two min_two max_three min_three max_four min_four   -- for this text's walks alone
set_option linter.unusedVariables false
set_option linter.unusedSimpArgs false

/-! ### spec_l2Look: function 22 -/
mutual
def spec_l2Look.j0:Nat → Int → Int → Bool → Int → Int → ByteArray → List (S28) → Option (Int)
 | 0,_,_,_,_,_,_,_=>none
 | k + 1,x1,x2,x18,x113000,x113001,x113002,x113003=>if x18 = true then (some (-1)) else (spec_l2Look.l0 k x1 (wrap64 (x2 - 1)) 0 x113000 x113001 x113002 x113003)
def spec_l2Look.l0:Nat → Int → Int → Int → Int → Int → ByteArray → List (S28) → Option (Int)
 | 0,_,_,_,_,_,_,_=>none
 | k + 1,x1,x2,x7,x113000,x113001,x113002,x113003=>if x7 < (x113003.length:Int) then (if x2 ≥ 0 then (if 0≤x7 then ((spec_l2Look.f k ((rd_T28 x113003 x7).f0) ((rd_T28 x113003 x7).f1) ((rd_T28 x113003 x7).f2) ((rd_T28 x113003 x7).f3) (wrap64 (x1 - 1)) x2).bind fun t115=>(spec_l2Look.l0 k x1 t115 (wrap64 (x7 + 1)) x113000 x113001 x113002 x113003)) else (none)) else (some x2)) else (some x2)
def spec_l2Look.f:Nat → Int → Int → ByteArray → List (S28) → Int → Int → Option (Int)
 | 0,_,_,_,_,_,_=>none
 | k + 1,a0_0,a0_1,a0_2,l0_3,a1,a2=>if a1 < 1 then (spec_l2Look.j0 k a1 a2 true a0_0 a0_1 a0_2 l0_3) else (if a2 < 1 then (spec_l2Look.j0 k a1 a2 true a0_0 a0_1 a0_2 l0_3) else ((spec_l2Shape.f k a0_0 a0_1 a0_2 l0_3).bind fun t113=>(spec_l2Look.j0 k a1 a2 (!t113) a0_0 a0_1 a0_2 l0_3)))
end
theorem spec_l2Look.mono_l:∀ k,(∀ y0 y1 y2 y3 y4 y5,LeO (spec_l2Look.f k y0 y1 y2 y3 y4 y5) (spec_l2Look.f (k + 1) y0 y1 y2 y3 y4 y5))∧(∀ y0 y1 y2 y3 y4 y5 y6,LeO (spec_l2Look.j0 k y0 y1 y2 y3 y4 y5 y6) (spec_l2Look.j0 (k + 1) y0 y1 y2 y3 y4 y5 y6))∧(∀ y0 y1 y2 y3 y4 y5 y6,LeO (spec_l2Look.l0 k y0 y1 y2 y3 y4 y5 y6) (spec_l2Look.l0 (k + 1) y0 y1 y2 y3 y4 y5 y6))
 | 0=>⟨fun _ _ _ _ _ _ r h=>by simp [spec_l2Look.f] at h,fun _ _ _ _ _ _ _ r h=>by simp [spec_l2Look.j0] at h,fun _ _ _ _ _ _ _ r h=>by simp [spec_l2Look.l0] at h⟩
 | k + 1=>by
  obtain ⟨ih0,ih1,ih2⟩:=spec_l2Look.mono_l k
  refine ⟨?_,?_,?_⟩
  ·intro y0 y1 y2 y3 y4 y5
   unfold spec_l2Look.f
   with_reducible repeat' first|apply ih0|apply ih1|apply ih2|apply spec_l2Shape.mono|apply LeO.refl|apply LeO.none|apply LeO.ite|refine LeO.bind ?_ (fun _=>?_)
  ·intro y0 y1 y2 y3 y4 y5 y6
   unfold spec_l2Look.j0
   with_reducible repeat' first|apply ih0|apply ih1|apply ih2|apply spec_l2Shape.mono|apply LeO.refl|apply LeO.none|apply LeO.ite|refine LeO.bind ?_ (fun _=>?_)
  ·intro y0 y1 y2 y3 y4 y5 y6
   unfold spec_l2Look.l0
   with_reducible repeat' first|apply ih0|apply ih1|apply ih2|apply spec_l2Shape.mono|apply LeO.refl|apply LeO.none|apply LeO.ite|refine LeO.bind ?_ (fun _=>?_)
theorem spec_l2Look.mono:∀ a0 a1 a2 a3 a4 a5 k,LeO (spec_l2Look.f k a0 a1 a2 a3 a4 a5) (spec_l2Look.f (k + 1) a0 a1 a2 a3 a4 a5):=by
 intro a0 a1 a2 a3 a4 a5 k;obtain ⟨ih0,ih1,ih2⟩:=spec_l2Look.mono_l k
 exact ih0 a0 a1 a2 a3 a4 a5
set_option maxHeartbeats 8000000 in
set_option maxRecDepth 100000 in
theorem spec_l2Look.calls (k:Nat):∀ (a0_0:Int) (a0_1:Int) (a0_2:ByteArray) (A0_3:Option Addr) (c0_3:Nat) (l0_3:List (S28)) (a1:Int) (a2:Int) (r:Int) (w:World) (hr0_3:Kd.C k28 w A0_3 l0_3.length l0_3) (hc0_3:l0_3.length≤c0_3) (h:spec_l2Look.f k a0_0 a0_1 a0_2 l0_3 a1 a2 = some r),
  Calls Try.prog 22 #[.agg #[.int .i64 a0_0,.int .i64 a0_1,.string a0_2,.slice A0_3 l0_3.length c0_3],.int .i64 a1,.int .i64 a2] w fun e w'=>e = .returned (.int .i64 r)∧Below w.heap.size w w':=by
 induction k using Nat.strongRecOn with
 | _ k ih =>
 intro a0_0 a0_1 a0_2 A0_3 c0_3 l0_3 a1 a2 r w hr0_3 hc0_3 h
 cases k with
 | zero=>exact absurd h (by simp [spec_l2Look.f])
 | succ k =>
 simp only [spec_l2Look.f] at h;have hu28:=Try.underlying28;have HR0_3:=Aside0.mk hr0_3;have HC0_3:=Aside0.mk hc0_3;clear hr0_3 hc0_3;have HB:=Aside0.mk (Below.refl w.heap.size w);have H:(if a1 < 1 then (spec_l2Look.j0 k a1 a2 true a0_0 a0_1 a0_2 l0_3) else (if a2 < 1 then (spec_l2Look.j0 k a1 a2 true a0_0 a0_1 a0_2 l0_3) else ((spec_l2Shape.f k a0_0 a0_1 a0_2 l0_3).bind fun t113=>(spec_l2Look.j0 k a1 a2 (!t113) a0_0 a0_1 a0_2 l0_3)))) = some r:=h;clear h;have HC4:=Aside0.mk H;clear H
 go_enter Try.func22,Try.ntmps22
 go_upto_region 1 with (first|((with_reducible refine gate_dst (N:=3) rfl ?_);refine box_event ?hg (N:=3) ?hd (cs:=#[.int .i64 a0_0,.int .i64 a0_1,.string a0_2,.slice A0_3 l0_3.length c0_3]) (t:=28) ?hr ?_;(case hd=>rfl);(case hg=>rfl);(case hr=>first|(go_simp;done)|(go_simp;rfl));intro gb112 hg w5 hbox hb;have n_:=ai (bq HB hb) <| ai (Aside0.mk (hbox)) <| ai (bz hg HB) <| bz hg HB;clear HB;obtain ⟨HB,BK112,GW112,GE112⟩:=n_;clear hb hbox hg))
 (try simp only [Act.put,List.setIfInBounds_toArray,List.set_cons_zero,List.set_cons_succ])
 go_cut [18] (fun v18 wc=>∃ (kq:Nat) (x18_3:Bool),v18 = .bool x18_3∧Aside0 (spec_l2Look.j0 kq a1 a2 x18_3 a0_0 a0_1 a0_2 l0_3 = some r)∧Aside0 (kq≤k)∧Aside0 (wc.heap[gb112]? = some (.cells #[.int .i64 a0_0,.int .i64 a0_1,.string a0_2,(.slice A0_3 l0_3.length c0_3)] 28 (0,0)))∧Aside0 (Below w.heap.size w wc))
 case first =>
  have H:=HC4.out;clear HC4
  by_cases c6:a1 < 1
  ·rw [if_pos c6] at H
   have c6b0:decide (a1 < 1) = true:=decide_eq_true c6;clear c6
   (first|rw [c6b0]|(simp only [i64_w,i32_w];rw [c6b0])|(simp only [c6b2,Bool.not_true,Bool.not_false])|skip)
   have H':=Aside0.mk H;clear H
   go_wp2
   go_meet
   case rel=>exact ⟨_,(true),(cl2),H',⟨by first|omega|exact Nat.le_refl _⟩,⟨bk BK112.out⟩,⟨bl HB.out⟩⟩
  ·rw [if_neg c6] at H
   have c6b0:decide (a1 < 1) = false:=decide_eq_false c6;clear c6
   (first|rw [c6b0]|(simp only [i64_w,i32_w];rw [c6b0])|(simp only [c6b2,Bool.not_true,Bool.not_false])|skip)
   by_cases c7:a2 < 1
   ·rw [if_pos c7] at H
    have c7b0:decide (a2 < 1) = true:=decide_eq_true c7;clear c7;have H':=Aside0.mk H;clear H
    go_wp2
    go_meet
    case rel=>exact ⟨_,(true),(cl2),H',⟨by first|omega|exact Nat.le_refl _⟩,⟨bk BK112.out⟩,⟨bl HB.out⟩⟩
   ·rw [if_neg c7] at H
    have c7b0:decide (a2 < 1) = false:=decide_eq_false c7;clear c7;replace H:=Option.bind_eq_some_iff.mp H;obtain ⟨t113,A80,H⟩:=H;replace H:(spec_l2Look.j0 k a1 a2 (!t113) a0_0 a0_1 a0_2 l0_3) = some r:=H;have A8:=Aside0.mk A80;clear A80;have H':=Aside0.mk H;clear H;obtain ⟨h9_0,h9_1,h9_2,h9_3⟩:=kb4 BK112.out
    go_wp2_with (first|(go_at_call 34;(with_reducible refine (spec_l2Shape.calls k a0_0 a0_1 a0_2 _ _ l0_3 t113 _ ?side1 ?side2 A8.out).mono ?_);(case side1=>exact ck (Kd.C_below HR0_3.out HB.out));(case side2=>exact HC0_3.out);rintro e w10 ⟨rfl,hb⟩;have n_:=ai (bw BK112 hb) <| bq HB hb;clear BK112 HB;obtain ⟨BK112,HB⟩:=n_;(try clear hb);(try clear hi)))
    go_meet
    case rel=>exact ⟨_,(!t113),(cl2),H',⟨by first|omega|exact Nat.le_refl _⟩,⟨bk BK112.out⟩,⟨bl HB.out⟩⟩
 case rest =>
  clear HC4;(try clear BK112);(try clear HB);obtain ⟨kq,x18_3,rfl,HA,HJ3,BK112,HB⟩:=hcut
  cases kq with
  | zero=>exact absurd HA.out (by simp [spec_l2Look.j0])
  | succ kj3 =>
   have H:=HA.out;clear HA;simp only [spec_l2Look.j0] at H
   by_cases c11:x18_3 = true
   ·subst c11
    have H1:(some (-1)) = some r:=by rw [if_pos rfl] at H;exact H
    clear H;have H:=H1;clear H1;obtain rfl:=Option.some.inj H
    go_wp2
    go_ret
    exact ⟨cl,bl HB.out⟩
   ·replace c11:=Bool.eq_false_iff.mpr c11
    subst c11;have H1:(spec_l2Look.l0 kj3 a1 (wrap64 (a2 - 1)) 0 a0_0 a0_1 a0_2 l0_3) = some r:=by rw [if_neg (show ¬ (false = true) by decide)] at H;exact H
    clear H;have H:=H1;clear H1;have H':=Aside0.mk H;clear H
    go_wp2
    go_loopg [2,7] kj3 (fun kq v2 v7 w'=>∃ (x2_2:Int) (x7_2:Int),v2 = .int .i64 x2_2∧v7 = .int .i64 x7_2∧Aside0 (spec_l2Look.l0 kq a1 x2_2 x7_2 a0_0 a0_1 a0_2 l0_3 = some r)∧Aside0 (kq≤kj3)∧Aside0 (w'.heap[gb112]? = some (.cells #[.int .i64 a0_0,.int .i64 a0_1,.string a0_2,(.slice A0_3 l0_3.length c0_3)] 28 (0,0)))∧Aside0 (Below w.heap.size w w'))
    case atStart=>exact ⟨(wrap64 (a2 - 1)),(0),(cl2),(cl2),H',⟨Nat.le_refl _⟩,⟨bk BK112.out⟩,⟨bl HB.out⟩⟩
    case round =>
     clear H';(try clear c11);(try clear p2);(try clear BK112);(try clear HB);obtain ⟨x2_2,x7_2,rfl,rfl,HA,HK2,BK112,HB⟩:=hrel
     cases gk with
     | zero=>exact absurd HA.out (by simp [spec_l2Look.l0])
     | succ k2 =>
      have H:=HA.out;clear HA;simp only [spec_l2Look.l0] at H
      by_cases c12:x7_2 < (l0_3.length:Int)
      ·rw [if_pos c12] at H
       have c12b0:decide (x7_2 < (l0_3.length:Int)) = true:=decide_eq_true c12;clear c12
       by_cases c13:x2_2 ≥ 0
       ·rw [if_pos c13] at H
        have c13b0:decide (0≤x2_2) = true:=decide_eq_true c13;clear c13
        by_cases c14:0≤x7_2
        ·rw [if_pos c14] at H
         have c14b0:decide (0≤x7_2) = true:=decide_eq_true c14;clear c14;replace H:=Option.bind_eq_some_iff.mp H;obtain ⟨t115,A150,H⟩:=H;replace H:(spec_l2Look.l0 k2 a1 t115 (wrap64 (x7_2 + 1)) a0_0 a0_1 a0_2 l0_3) = some r:=H;have A15:=Aside0.mk A150;clear A150;have H':=Aside0.mk H;clear H;obtain ⟨h16_0,h16_1,h16_2,h16_3⟩:=kb4 BK112.out;have p114:0≤(x7_2:Int):=od;have q114:x7_2 < (l0_3.length:Int):=od;obtain ⟨ad114,A114_3,c114_3,e114,hx114_0,hx114_1,hx114_2,hx114_3,hl114_3,hi114_3⟩:=at_T28 HR0_3.out x7_2 p114 q114;cases e114;replace hx114_0:=cb HB hx114_0;replace hx114_1:=cb HB hx114_1;replace hx114_2:=cb HB hx114_2;replace hx114_3:=cb HB hx114_3;have HR114_3:=Aside0.mk hi114_3;have HC114_3:=Aside0.mk hl114_3;clear hi114_3 hl114_3;replace p114:=eq_true p114;replace q114:=eq_true q114
         go_wp2_with (first|((with_reducible refine gate_callee (f:=22) rfl ?_);refine goesL_ (some 40) rfl rfl Try.func22 (by kernel_rfl) rfl #[.agg #[.int .i64 ((rd_T28 l0_3 x7_2).f0),.int .i64 ((rd_T28 l0_3 x7_2).f1),.string ((rd_T28 l0_3 x7_2).f2),.slice A114_3 ((rd_T28 l0_3 x7_2).f3).length c114_3],.int .i64 (wrap64 (a1 - 1)),.int .i64 x2_2] rfl gs ?_;(with_reducible refine (ih k2 (by have:=HJ3.out;have:=HK2.out;omega) ((rd_T28 l0_3 x7_2).f0) ((rd_T28 l0_3 x7_2).f1) ((rd_T28 l0_3 x7_2).f2) _ _ ((rd_T28 l0_3 x7_2).f3) (wrap64 (a1 - 1)) x2_2 t115 _ ?side1 ?side2 A15.out).mono ?_);(case side1=>exact ck (Kd.C_below HR114_3.out HB.out));(case side2=>exact HC114_3.out);rintro e w17 ⟨rfl,hb⟩;refine ⟨_,rfl,?_⟩;have n_:=ai (bw BK112 hb) <| bq HB hb;clear BK112 HB;obtain ⟨BK112,HB⟩:=n_;(try clear hb);(try clear hi)))
         go_roundg k2
         case measure=>have:=HJ3.out;have:=HK2.out;omega
         case rel=>exact ⟨(t115),(wrap64 (x7_2 + 1)),(cl2),(cl2),H',⟨by have:=HJ3.out;have:=HK2.out;omega⟩,⟨bk BK112.out⟩,⟨bl HB.out⟩⟩
        ·rw [if_neg c14] at H
         exact absurd H (by simp)
       ·rw [if_neg c13] at H
        have c13b0:decide (0≤x2_2) = false:=decide_eq_false c13;clear c13;obtain rfl:=Option.some.inj H;obtain ⟨h18_0,h18_1,h18_2,h18_3⟩:=kb4 BK112.out
        go_wp2
        go_ret
        exact ⟨cl,bl HB.out⟩
      ·rw [if_neg c12] at H
       have c12b0:decide (x7_2 < (l0_3.length:Int)) = false:=decide_eq_false c12;clear c12;obtain rfl:=Option.some.inj H;obtain ⟨h19_0,h19_1,h19_2,h19_3⟩:=kb4 BK112.out
       go_wp2
       go_ret
       exact ⟨cl,bl HB.out⟩

/-! ### spec_TermOk: function 13 -/
def spec_TermOk.f (k:Nat) (a0_0:Int) (a0_1:Int) (a0_2:ByteArray) (l0_3:List (S28)):Option (Bool):=(spec_l2Look.f k a0_0 a0_1 a0_2 l0_3 8 300).bind fun t117=>(some (decide (t117 ≥ 0)))
theorem spec_TermOk.mono:∀ a0 a1 a2 a3 k,LeO (spec_TermOk.f k a0 a1 a2 a3) (spec_TermOk.f (k + 1) a0 a1 a2 a3):=by
 intro a0 a1 a2 a3 k
 unfold spec_TermOk.f
 with_reducible repeat' first|apply spec_l2Look.mono|apply LeO.refl|apply LeO.none|apply LeO.ite|refine LeO.bind ?_ (fun _=>?_)
set_option maxHeartbeats 8000000 in
set_option maxRecDepth 100000 in
theorem spec_TermOk.calls (k:Nat) (a0_0:Int) (a0_1:Int) (a0_2:ByteArray) (A0_3:Option Addr) (c0_3:Nat) (l0_3:List (S28)) (r:Bool) (w:World) (hr0_3:Kd.C k28 w A0_3 l0_3.length l0_3) (hc0_3:l0_3.length≤c0_3) (h:spec_TermOk.f k a0_0 a0_1 a0_2 l0_3 = some r) :
  Calls Try.prog 13 #[.agg #[.int .i64 a0_0,.int .i64 a0_1,.string a0_2,.slice A0_3 l0_3.length c0_3]] w fun e w'=>e = .returned (.bool r)∧Below w.heap.size w w':=by
 have hu28:=Try.underlying28;have HR0_3:=Aside0.mk hr0_3;have HC0_3:=Aside0.mk hc0_3;clear hr0_3 hc0_3;have HB:=Aside0.mk (Below.refl w.heap.size w);have H:((spec_l2Look.f k a0_0 a0_1 a0_2 l0_3 8 300).bind fun t117=>(some (decide (t117 ≥ 0)))) = some r:=h;clear h;replace H:=Option.bind_eq_some_iff.mp H;obtain ⟨t117,A20,H⟩:=H;replace H:(some (decide (t117 ≥ 0))) = some r:=H;have A2:=Aside0.mk A20;clear A20;obtain rfl:=Option.some.inj H
 go_enter Try.func13,Try.ntmps13
 go_wp2_with (first|((with_reducible refine gate_dst (N:=1) rfl ?_);refine box_event ?hg (N:=1) ?hd (cs:=#[.int .i64 a0_0,.int .i64 a0_1,.string a0_2,.slice A0_3 l0_3.length c0_3]) (t:=28) ?hr ?_;(case hd=>rfl);(case hg=>rfl);(case hr=>first|(go_simp;done)|(go_simp;rfl));intro gb116 hg w3 hbox hb;have n_:=ai (bq HB hb) <| ai (Aside0.mk (hbox)) <| ai (bz hg HB) <| bz hg HB;clear HB;obtain ⟨HB,BK116,GW116,GE116⟩:=n_;clear hb hbox hg;obtain ⟨h4_0,h4_1,h4_2,h4_3⟩:=kb4 BK116.out;obtain ⟨z4_0,z4_1,z4_2,z4_3⟩:=kz4 BK116.out)|((with_reducible refine gate_callee (f:=22) rfl ?_);refine goesL_ (some 4) rfl rfl Try.func22 (by kernel_rfl) rfl #[.agg #[.int .i64 a0_0,.int .i64 a0_1,.string a0_2,.slice A0_3 l0_3.length c0_3],.int .i64 8,.int .i64 300] rfl gs ?_;(with_reducible refine (spec_l2Look.calls k a0_0 a0_1 a0_2 _ _ l0_3 8 300 t117 _ ?side1 ?side2 A2.out).mono ?_);(case side1=>exact ck (Kd.C_below HR0_3.out HB.out));(case side2=>exact HC0_3.out);rintro e w5 ⟨rfl,hb⟩;refine ⟨_,rfl,?_⟩;have n_:=ai (bw BK116 hb) <| bq HB hb;clear BK116 HB;obtain ⟨BK116,HB⟩:=n_;(try clear hb);(try clear hi)))
 go_ret
 exact ⟨cl,bl HB.out⟩

/-! ### spec_l8Bool: function 23 -/
def spec_l8Bool.f (a0:Bool):Option (Int × Int × ByteArray × (List (S28))):=if a0 = true then (some (2,0,(⟨#[116,114,117,101]⟩:ByteArray),([]:List (S28)))) else (some (2,0,(⟨#[102,97,108,115,101]⟩:ByteArray),([]:List (S28))))
set_option maxHeartbeats 8000000 in
set_option maxRecDepth 100000 in
theorem spec_l8Bool.calls (a0:Bool) (r1:Int) (r2:Int) (r3:ByteArray) (r4:List (S28)) (w:World) (h:spec_l8Bool.f a0 = some (r1,r2,r3,r4)) :
  Calls Try.prog 23 #[.bool a0] w fun e w'=>∃ v3_:Value,e = .returned (.agg #[.int .i64 r1,.int .i64 r2,.string r3,v3_])∧Kd.R k28 28 w' w.heap.size (fun _=>True) v3_ r4∧Below w.heap.size w w':=by
 have hu28:=Try.underlying28;have HB:=Aside0.mk (Below.refl w.heap.size w);have H:(if a0 = true then (some (2,0,(⟨#[116,114,117,101]⟩:ByteArray),([]:List (S28)))) else (some (2,0,(⟨#[102,97,108,115,101]⟩:ByteArray),([]:List (S28))))) = some (r1,r2,r3,r4):=h;clear h
 by_cases c2:a0 = true
 ·subst c2
  have H1:(some (2,0,(⟨#[116,114,117,101]⟩:ByteArray),([]:List (S28)))) = some (r1,r2,r3,r4):=by rw [if_pos rfl] at H;exact H
  clear H;have H:=H1;clear H1;simp only [Option.some.injEq,Prod.mk.injEq] at H;obtain ⟨rfl,rfl,rfl,rfl⟩:=H
  go_enter Try.func23,Try.ntmps23
  go_wp2_with (first|((with_reducible refine gate_dst (N:=2) rfl ?_);refine box_event ?hg (N:=2) ?hd (cs:=#[.int .i64 0,.int .i64 0,.string (⟨#[]⟩:ByteArray),.slice none 0 0]) (t:=28) ?hr ?_;(case hd=>rfl);(case hg=>rfl);(case hr=>first|(go_simp;done)|(go_simp;rfl));intro gb118 hg w3 hbox hb;have n_:=ai (bq HB hb) <| ai (Aside0.mk (hbox)) <| ai (bz hg HB) <| bz hg HB;clear HB;obtain ⟨HB,BK118,GW118,GE118⟩:=n_;clear hb hbox hg;obtain ⟨h4_0,h4_1,h4_2,h4_3⟩:=kb4 BK118.out;obtain ⟨z4_0,z4_1,z4_2,z4_3⟩:=kz4 BK118.out))
  refine bodyPost_ret (results_cell_row rfl _ _ gb118 28 #[.int .i64 2,.int .i64 0,.string (⟨#[116,114,117,101]⟩:ByteArray),.slice none 0 0] (0,0) _ rfl (bmp BK118.out) Try.underlying28 rfl (by kernel_rfl)) rfl ?_
  exact ⟨_,cl,by first|exact Kd.R_nil _ _ _ _ _|exact Kd.N_nil _ _ _ _ _|exact Kd.V_nil _ _ _ _ _|exact Kd.Q_nil _ _ _ _ _|exact Kd.S_nil _ _ _ _ _,bl HB.out⟩
 ·replace c2:=Bool.eq_false_iff.mpr c2
  subst c2;have H1:(some (2,0,(⟨#[102,97,108,115,101]⟩:ByteArray),([]:List (S28)))) = some (r1,r2,r3,r4):=by rw [if_neg (show ¬ (false = true) by decide)] at H;exact H
  clear H;have H:=H1;clear H1;simp only [Option.some.injEq,Prod.mk.injEq] at H;obtain ⟨rfl,rfl,rfl,rfl⟩:=H
  go_enter Try.func23,Try.ntmps23
  go_wp2_with (first|((with_reducible refine gate_dst (N:=2) rfl ?_);refine box_event ?hg (N:=2) ?hd (cs:=#[.int .i64 0,.int .i64 0,.string (⟨#[]⟩:ByteArray),.slice none 0 0]) (t:=28) ?hr ?_;(case hd=>rfl);(case hg=>rfl);(case hr=>first|(go_simp;done)|(go_simp;rfl));intro gb118 hg w5 hbox hb;have n_:=ai (bq HB hb) <| ai (Aside0.mk (hbox)) <| ai (bz hg HB) <| bz hg HB;clear HB;obtain ⟨HB,BK118,GW118,GE118⟩:=n_;clear hb hbox hg;obtain ⟨h6_0,h6_1,h6_2,h6_3⟩:=kb4 BK118.out;obtain ⟨z6_0,z6_1,z6_2,z6_3⟩:=kz4 BK118.out))
  refine bodyPost_ret (results_cell_row rfl _ _ gb118 28 #[.int .i64 2,.int .i64 0,.string (⟨#[102,97,108,115,101]⟩:ByteArray),.slice none 0 0] (0,0) _ rfl (bmp BK118.out) Try.underlying28 rfl (by kernel_rfl)) rfl ?_
  exact ⟨_,cl,by first|exact Kd.R_nil _ _ _ _ _|exact Kd.N_nil _ _ _ _ _|exact Kd.V_nil _ _ _ _ _|exact Kd.Q_nil _ _ _ _ _|exact Kd.S_nil _ _ _ _ _,bl HB.out⟩
theorem spec_l8Bool.f_nilA (a0:Bool):OptAll (fun (r:Int × Int × ByteArray × (List (S28)))=>r.2.2.2 = []) (spec_l8Bool.f a0):=by
 unfold spec_l8Bool.f
 repeat' (first|exact OptAll.no _|exact OptAll.so rfl|refine OptAll.ite ?_ ?_|refine OptAll.bind (fun t_ h_=>?_))
theorem spec_l8Bool.nil {a0:Bool} {r:Int × Int × ByteArray × (List (S28))} (h:spec_l8Bool.f a0 = some r):r.2.2.2 = []:=spec_l8Bool.f_nilA a0 r h

end Go.Proofs.Ytiooogcjoobjnaa.QFnExactOperate
