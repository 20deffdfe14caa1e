-- Written by a program of this workplace (print2.py) for this claim, over the print's words.
import Derived.Test.YtefkjmkmojmllaaQFnExactGetTermx0
import Derived.Test.YtefkjmkmojmllaaQFnExactGetTermx1
namespace Go.Proofs.Ytefkjmkmojmllaa.QFnExactGetTerm
open Go.RowKit Go.Proofs.YtefkjmkmojmllaaW.PrintWords Go.Proofs.YtefkjmkmojmllaaW.PrintLast Go.Proofs.YtefkjmkmojmllaaW.PrintMore
attribute [local go_sem] max2_int min2_int max_two min_two max_three min_three max_four min_four   -- for this text's walks alone
set_option linter.unusedVariables false
set_option linter.unusedSimpArgs false

/-! ### spec_l2Get: function 12 -/
mutual
def spec_l2Get.j0:Nat → List Int → Int → Int → Int → Bool → Int → Int → ByteArray → Option (Int × Int × ByteArray × (List (S25)) × Int × Bool)
 | 0,_,_,_,_,_,_,_,_=>none
 | k + 1,x0,x2,x9,x10,x40,x118000,x118001,x118002=>if x40 = true then (some (x118000,x118001,x118002,([]:List (S25)),0,false)) else (if x9 = 1 then (spec_l2Get.j1 k x0 x2 x10 x9 (x9 == 1) x118000 x118001 x118002) else (spec_l2Get.j1 k x0 x2 x10 x9 (x9 == 3) x118000 x118001 x118002))
def spec_l2Get.j1:Nat → List Int → Int → Int → Int → Bool → Int → Int → ByteArray → Option (Int × Int × ByteArray × (List (S25)) × Int × Bool)
 | 0,_,_,_,_,_,_,_,_=>none
 | k + 1,x0,x2,x10,x42,x43,x118000,x118001,x118002=>if x43 = true then ((spec_GetNum.f k x0 x10).bind fun bt118=>(some (x118000,bt118.1,x118002,([]:List (S25)),bt118.2.1,bt118.2.2))) else (if x42 = 2 then ((spec_GetText.f k x0 x10).bind fun bt121=>(some (x118000,x118001,bt121.1,([]:List (S25)),bt121.2.1,bt121.2.2))) else ((spec_GetNum.f k x0 x10).bind fun bt124=>(if bt124.2.2 = true then ((spec_l1In.f bt124.1 0 60).bind fun t127=>(spec_l2Get.j2 k x0 x2 bt124.1 bt124.2.1 (!t127) x118000 x118001 x118002)) else (spec_l2Get.j2 k x0 x2 bt124.1 bt124.2.1 true x118000 x118001 x118002))))
def spec_l2Get.j2:Nat → List Int → Int → Int → Int → Bool → Int → Int → ByteArray → Option (Int × Int × ByteArray × (List (S25)) × Int × Bool)
 | 0,_,_,_,_,_,_,_,_=>none
 | k + 1,x0,x2,x19,x20,x85,x118000,x118001,x118002=>if x85 = true then (some (x118000,x118001,x118002,([]:List (S25)),0,false)) else (spec_l2Get.l0 k x0 x2 x19 x20 0 x118000 x118001 x118002 ([]:List (S25)))
def spec_l2Get.l0:Nat → List Int → Int → Int → Int → Int → Int → Int → ByteArray → List (S25) → Option (Int × Int × ByteArray × (List (S25)) × Int × Bool)
 | 0,_,_,_,_,_,_,_,_,_=>none
 | k + 1,x0,x2,x19,x20,x22,x118000,x118001,x118002,x118003=>if x22 < x19 then ((spec_l2Get.f k x0 x20 (wrap64 (x2 - 1))).bind fun bt128=>(if bt128.2.2.2.2.2 = true then (if x118003.length < 2513169434916 then (spec_l2Get.l0 k x0 x2 x19 bt128.2.2.2.2.1 (wrap64 (x22 + 1)) x118000 x118001 x118002 (x118003 ++ [(⟨bt128.1,bt128.2.1,bt128.2.2.1,bt128.2.2.2.1⟩:S25)])) else (none)) else (some (x118000,x118001,x118002,x118003,0,false)))) else (some (x118000,x118001,x118002,x118003,x20,true))
def spec_l2Get.f:Nat → List Int → Int → Int → Option (Int × Int × ByteArray × (List (S25)) × Int × Bool)
 | 0,_,_,_=>none
 | k + 1,l0,a1,a2=>(spec_GetNum.f k l0 a1).bind fun bt114=>(if bt114.2.2 = true then (spec_l2Get.j0 k l0 a2 bt114.1 bt114.2.1 (decide (a2 < 1)) bt114.1 0 (⟨#[]⟩:ByteArray)) else (spec_l2Get.j0 k l0 a2 bt114.1 bt114.2.1 true bt114.1 0 (⟨#[]⟩:ByteArray)))
end
theorem spec_l2Get.mono_l:∀ k,(∀ y0 y1 y2,LeO (spec_l2Get.f k y0 y1 y2) (spec_l2Get.f (k + 1) y0 y1 y2))∧(∀ y0 y1 y2 y3 y4 y5 y6 y7,LeO (spec_l2Get.j0 k y0 y1 y2 y3 y4 y5 y6 y7) (spec_l2Get.j0 (k + 1) y0 y1 y2 y3 y4 y5 y6 y7))∧(∀ y0 y1 y2 y3 y4 y5 y6 y7,LeO (spec_l2Get.j1 k y0 y1 y2 y3 y4 y5 y6 y7) (spec_l2Get.j1 (k + 1) y0 y1 y2 y3 y4 y5 y6 y7))∧(∀ y0 y1 y2 y3 y4 y5 y6 y7,LeO (spec_l2Get.j2 k y0 y1 y2 y3 y4 y5 y6 y7) (spec_l2Get.j2 (k + 1) y0 y1 y2 y3 y4 y5 y6 y7))∧(∀ y0 y1 y2 y3 y4 y5 y6 y7 y8,LeO (spec_l2Get.l0 k y0 y1 y2 y3 y4 y5 y6 y7 y8) (spec_l2Get.l0 (k + 1) y0 y1 y2 y3 y4 y5 y6 y7 y8))
 | 0=>⟨fun _ _ _ r h=>by simp [spec_l2Get.f] at h,fun _ _ _ _ _ _ _ _ r h=>by simp [spec_l2Get.j0] at h,fun _ _ _ _ _ _ _ _ r h=>by simp [spec_l2Get.j1] at h,fun _ _ _ _ _ _ _ _ r h=>by simp [spec_l2Get.j2] at h,fun _ _ _ _ _ _ _ _ _ r h=>by simp [spec_l2Get.l0] at h⟩
 | k + 1=>by
  obtain ⟨ih0,ih1,ih2,ih3,ih4⟩:=spec_l2Get.mono_l k
  refine ⟨?_,?_,?_,?_,?_⟩
  ·intro y0 y1 y2
   unfold spec_l2Get.f
   with_reducible repeat' first|apply ih0|apply ih1|apply ih2|apply ih3|apply ih4|apply spec_GetNum.mono|apply spec_GetText.mono|apply LeO.refl|apply LeO.none|apply LeO.ite|refine LeO.bind ?_ (fun _=>?_)
  ·intro y0 y1 y2 y3 y4 y5 y6 y7
   unfold spec_l2Get.j0
   with_reducible repeat' first|apply ih0|apply ih1|apply ih2|apply ih3|apply ih4|apply spec_GetNum.mono|apply spec_GetText.mono|apply LeO.refl|apply LeO.none|apply LeO.ite|refine LeO.bind ?_ (fun _=>?_)
  ·intro y0 y1 y2 y3 y4 y5 y6 y7
   unfold spec_l2Get.j1
   with_reducible repeat' first|apply ih0|apply ih1|apply ih2|apply ih3|apply ih4|apply spec_GetNum.mono|apply spec_GetText.mono|apply LeO.refl|apply LeO.none|apply LeO.ite|refine LeO.bind ?_ (fun _=>?_)
  ·intro y0 y1 y2 y3 y4 y5 y6 y7
   unfold spec_l2Get.j2
   with_reducible repeat' first|apply ih0|apply ih1|apply ih2|apply ih3|apply ih4|apply spec_GetNum.mono|apply spec_GetText.mono|apply LeO.refl|apply LeO.none|apply LeO.ite|refine LeO.bind ?_ (fun _=>?_)
  ·intro y0 y1 y2 y3 y4 y5 y6 y7 y8
   unfold spec_l2Get.l0
   with_reducible repeat' first|apply ih0|apply ih1|apply ih2|apply ih3|apply ih4|apply spec_GetNum.mono|apply spec_GetText.mono|apply LeO.refl|apply LeO.none|apply LeO.ite|refine LeO.bind ?_ (fun _=>?_)
theorem spec_l2Get.mono:∀ a0 a1 a2 k,LeO (spec_l2Get.f k a0 a1 a2) (spec_l2Get.f (k + 1) a0 a1 a2):=by
 intro a0 a1 a2 k;obtain ⟨ih0,ih1,ih2,ih3,ih4⟩:=spec_l2Get.mono_l k
 exact ih0 a0 a1 a2
set_option maxHeartbeats 8000000 in
set_option maxRecDepth 100000 in
theorem spec_l2Get.calls (k:Nat):∀ (A0:Option Addr) (c0:Nat) (l0:List Int) (a1:Int) (a2:Int) (r1:Int) (r2:Int) (r3:ByteArray) (r4:List (S25)) (r5:Int) (r6:Bool) (w:World) (hr0:Kd.C (Kd.int .u8) w A0 l0.length l0) (hc0:l0.length≤c0) (h:spec_l2Get.f k l0 a1 a2 = some (r1,r2,r3,r4,r5,r6)),
  Calls Try.prog 12 #[.slice A0 l0.length c0,.int .i64 a1,.int .i64 a2] w fun e w'=>∃ v3_:Value,e = .returned (.tuple #[.agg #[.int .i64 r1,.int .i64 r2,.string r3,v3_],.int .i64 r5,.bool r6])∧Kd.R k25 25 w' w.heap.size (fun _=>True) v3_ r4∧Below w.heap.size w w':=by
 induction k using Nat.strongRecOn with
 | _ k ih =>
 intro A0 c0 l0 a1 a2 r1 r2 r3 r4 r5 r6 w hr0 hc0 h
 cases k with
 | zero=>exact absurd h (by simp [spec_l2Get.f])
 | succ k =>
 simp only [spec_l2Get.f] at h;have hu25:=Try.underlying25;have HR0:=Aside0.mk hr0;have HC0:=Aside0.mk hc0;clear hr0 hc0;have HB:=Aside0.mk (Below.refl w.heap.size w);have H:((spec_GetNum.f k l0 a1).bind fun bt114=>(if bt114.2.2 = true then (spec_l2Get.j0 k l0 a2 bt114.1 bt114.2.1 (decide (a2 < 1)) bt114.1 0 (⟨#[]⟩:ByteArray)) else (spec_l2Get.j0 k l0 a2 bt114.1 bt114.2.1 true bt114.1 0 (⟨#[]⟩:ByteArray)))) = some (r1,r2,r3,r4,r5,r6):=h;clear h;replace H:=Option.bind_eq_some_iff.mp H;obtain ⟨⟨t114,t115,t116⟩,A40,H⟩:=H;replace H:(if t116 = true then (spec_l2Get.j0 k l0 a2 t114 t115 (decide (a2 < 1)) t114 0 (⟨#[]⟩:ByteArray)) else (spec_l2Get.j0 k l0 a2 t114 t115 true t114 0 (⟨#[]⟩:ByteArray))) = some (r1,r2,r3,r4,r5,r6):=H;have A4:=Aside0.mk A40;clear A40;have HC5:=Aside0.mk H;clear H
 go_enter Try.func12,Try.ntmps12
 go_upto_region 3 with (first|((with_reducible refine gate_dst (N:=6) rfl ?_);refine box_event ?hg (N:=6) ?hd (cs:=#[.int .i64 0,.int .i64 0,.string (⟨#[]⟩:ByteArray),.slice none 0 0]) (t:=25) ?hr ?_;(case hd=>rfl);(case hg=>rfl);(case hr=>first|(go_simp;done)|(go_simp;rfl));intro gb113 hg w6 hbox hb;have n_:=ai (bq HB hb) <| ai (Aside0.mk (hbox)) <| ai (bz hg HB) <| bz hg HB;clear HB;obtain ⟨HB,BK113,GW113,GE113⟩:=n_;clear hb hbox hg)|((with_reducible refine gate_callee (f:=21) rfl ?_);refine goesL_ (some 29) rfl rfl Try.func21 (by kernel_rfl) rfl #[.slice A0 l0.length c0,.int .i64 a1] rfl gs ?_;(with_reducible refine (spec_GetNum.calls k _ _ l0 a1 t114 t115 t116 _ ?side1 ?side2 A4.out).mono ?_);(case side1=>exact ck (Kd.C_below HR0.out HB.out));(case side2=>exact HC0.out);rintro e w' ⟨rfl,⟨nd,rfl⟩⟩;refine ⟨_,rfl,?_⟩;(try (rw [drewN_self w6];generalize hq_:World.drewN w6 _ = w6;have n_:=ai ((⟨by rw [← hq_];exact (bk BK113.out)⟩:Aside0 (w6.heap[gb113]? = some (.cells #[.int .i64 0,.int .i64 0,.string (⟨#[]⟩:ByteArray),.slice none 0 0] 25 (0,0))))) <| (⟨by rw [← hq_];exact (bl HB.out)⟩:Aside0 (Below w.heap.size w w6));clear BK113 HB hq_;obtain ⟨BK113,HB⟩:=n_)))|((with_reducible refine gate_dst (N:=12) rfl ?_);refine box_event ?hg (N:=12) ?hd (cs:=#[.int .i64 0,.int .i64 0,.string (⟨#[]⟩:ByteArray),.slice none 0 0]) (t:=25) ?hr ?_;(case hd=>rfl);(case hg=>rfl);(case hr=>first|(go_simp;done)|(go_simp;rfl));intro gb117 hg w7 hbox hb;have n_:=ai (bw BK113 hb) <| ai (bq HB hb) <| ai (Aside0.mk (hbox)) <| ai (bz hg HB) <| ai (bz hg HB) <| ai (nl hg BK113) <| ng hg BK113;clear BK113 HB;obtain ⟨BK113,HB,BK117,GW117,GE117,NB113_117,NB117_113⟩:=n_;clear hb hbox hg;have:=NB117_113.out;have:=NB113_117.out;obtain ⟨h9_0,h9_1,h9_2,h9_3⟩:=kb4 BK117.out;obtain ⟨z9_0,z9_1,z9_2,z9_3⟩:=kz4 BK117.out))
 (try simp only [Act.put,List.setIfInBounds_toArray,List.set_cons_zero,List.set_cons_succ])
 go_cut [40] (fun v40 wc=>∃ (kq:Nat) (x40_4:Bool),v40 = .bool x40_4∧Aside0 (spec_l2Get.j0 kq l0 a2 t114 t115 x40_4 t114 0 (⟨#[]⟩:ByteArray) = some (r1,r2,r3,r4,r5,r6))∧Aside0 (kq≤k)∧Aside0 (wc.heap[gb113]? = some (.cells #[.int .i64 0,.int .i64 0,.string (⟨#[]⟩:ByteArray),(.slice none 0 0)] 25 (0,0)))∧Aside0 (wc.heap[gb117]? = some (.cells #[.int .i64 t114,.int .i64 0,.string (⟨#[]⟩:ByteArray),(.slice none 0 0)] 25 (0,0)))∧Aside0 (Below w.heap.size w wc))
 case first =>
  have H:=HC5.out;clear HC5
  by_cases c10:t116 = true
  ·subst c10
   have H1:(spec_l2Get.j0 k l0 a2 t114 t115 (decide (a2 < 1)) t114 0 (⟨#[]⟩:ByteArray)) = some (r1,r2,r3,r4,r5,r6):=by rw [if_pos rfl] at H;exact H
   clear H;have H:=H1;clear H1;have H':=Aside0.mk H;clear H
   go_wp2
   go_meet
   case rel=>exact ⟨_,(decide (a2 < 1)),(cl2),H',⟨by first|omega|exact Nat.le_refl _⟩,⟨bm BK113.out⟩,⟨bmp BK117.out⟩,⟨bl HB.out⟩⟩
  ·replace c10:=Bool.eq_false_iff.mpr c10
   subst c10;have H1:(spec_l2Get.j0 k l0 a2 t114 t115 true t114 0 (⟨#[]⟩:ByteArray)) = some (r1,r2,r3,r4,r5,r6):=by rw [if_neg (show ¬ (false = true) by decide)] at H;exact H
   clear H;have H:=H1;clear H1;have H':=Aside0.mk H;clear H
   go_wp2
   go_meet
   case rel=>exact ⟨_,(true),(cl2),H',⟨by first|omega|exact Nat.le_refl _⟩,⟨bm BK113.out⟩,⟨bmp BK117.out⟩,⟨bl HB.out⟩⟩
 case rest =>
  clear HC5;(try clear h9_0 h9_1 h9_2 h9_3);(try clear z9_0 z9_1 z9_2 z9_3);(try clear BK113);(try clear BK117);(try clear HB);obtain ⟨kq,x40_4,rfl,HA,HJ4,BK113,BK117,HB⟩:=hcut
  cases kq with
  | zero=>exact absurd HA.out (by simp [spec_l2Get.j0])
  | succ kj4 =>
   have H:=HA.out;clear HA;simp only [spec_l2Get.j0] at H
   by_cases c11:x40_4 = true
   ·subst c11
    have H1:(some (t114,0,(⟨#[]⟩:ByteArray),([]:List (S25)),0,false)) = some (r1,r2,r3,r4,r5,r6):=by rw [if_pos rfl] at H;exact H
    clear H;have H:=H1;clear H1;simp only [Option.some.injEq,Prod.mk.injEq] at H;obtain ⟨rfl,rfl,rfl,rfl,rfl,rfl⟩:=H;have:=NB117_113.out;have:=NB113_117.out;obtain ⟨h13_0,h13_1,h13_2,h13_3⟩:=kb4 BK117.out;obtain ⟨z13_0,z13_1,z13_2,z13_3⟩:=kz4 BK117.out;obtain ⟨h14_0,h14_1,h14_2,h14_3⟩:=kb4 BK113.out;obtain ⟨z14_0,z14_1,z14_2,z14_3⟩:=kz4 BK113.out
    go_wp2
    refine bodyPost_ret (results_ctt rfl _ _ gb113 25 #[.int .i64 t114,.int .i64 0,.string (⟨#[]⟩:ByteArray),.slice none 0 0] (0,0) _ rfl (bmp BK113.out) Try.underlying25 rfl (by kernel_rfl)) rfl ?_
    exact ⟨_,cl,by first|exact Kd.R_nil _ _ _ _ _|exact Kd.N_nil _ _ _ _ _|exact Kd.V_nil _ _ _ _ _|exact Kd.Q_nil _ _ _ _ _|exact Kd.S_nil _ _ _ _ _,bl HB.out⟩
   ·replace c11:=Bool.eq_false_iff.mpr c11
    subst c11;have H1:(if t114 = 1 then (spec_l2Get.j1 kj4 l0 a2 t115 t114 (t114 == 1) t114 0 (⟨#[]⟩:ByteArray)) else (spec_l2Get.j1 kj4 l0 a2 t115 t114 (t114 == 3) t114 0 (⟨#[]⟩:ByteArray))) = some (r1,r2,r3,r4,r5,r6):=by rw [if_neg (show ¬ (false = true) by decide)] at H;exact H
    clear H;have H:=H1;clear H1;have HC15:=Aside0.mk H;clear H
    go_upto_if 43 with (fail)
    go_cut [43] (fun v43 wc=>∃ (kq:Nat) (x43_14:Bool),v43 = .bool x43_14∧Aside0 (spec_l2Get.j1 kq l0 a2 t115 t114 x43_14 t114 0 (⟨#[]⟩:ByteArray) = some (r1,r2,r3,r4,r5,r6))∧Aside0 (kq≤kj4)∧Aside0 (wc.heap[gb113]? = some (.cells #[.int .i64 0,.int .i64 0,.string (⟨#[]⟩:ByteArray),(.slice none 0 0)] 25 (0,0)))∧Aside0 (wc.heap[gb117]? = some (.cells #[.int .i64 t114,.int .i64 0,.string (⟨#[]⟩:ByteArray),(.slice none 0 0)] 25 (0,0)))∧Aside0 (Below w.heap.size w wc))
    case first =>
     have H:=HC15.out;clear HC15
     by_cases c16:t114 = 1
     ·rw [if_pos c16] at H
      have c16b0:(t114 == 1) = true:=beq_iff_eq.mpr c16;have c16b1:(t114 != 1) = false:=bne_eq_false_iff_eq.mpr c16;clear c16
      (first|rw [c16b0]|(simp only [i64_w,i32_w];rw [c16b0])|(simp only [c16b2,Bool.not_true,Bool.not_false])|skip)
      have H':=Aside0.mk H;clear H
      go_wp2
      go_meet
      case rel=>exact ⟨_,((t114 == 1)),(cl2),H',⟨by have:=HJ4.out;first|omega|exact Nat.le_refl _⟩,⟨bk BK113.out⟩,⟨bk BK117.out⟩,⟨bl HB.out⟩⟩
     ·rw [if_neg c16] at H
      have c16b0:(t114 == 1) = false:=beq_eq_false_iff_ne.mpr c16;have c16b1:(t114 != 1) = true:=bne_iff_ne.mpr c16
      (first|rw [c16b0]|(simp only [i64_w,i32_w];rw [c16b0])|(simp only [c16b2,Bool.not_true,Bool.not_false])|skip)
      have H':=Aside0.mk H;clear H
      go_wp2
      go_meet
      case rel=>exact ⟨_,((t114 == 3)),(cl2),H',⟨by have:=HJ4.out;first|omega|exact Nat.le_refl _⟩,⟨bk BK113.out⟩,⟨bk BK117.out⟩,⟨bl HB.out⟩⟩
    case rest =>
     clear HC15;(try clear c11);(try clear h9_0 h9_1 h9_2 h9_3);(try clear z9_0 z9_1 z9_2 z9_3);(try clear p2);(try clear BK113);(try clear BK117);(try clear HB);obtain ⟨kq,x43_14,rfl,HA,HJ14,BK113,BK117,HB⟩:=hcut
     cases kq with
     | zero=>exact absurd HA.out (by simp [spec_l2Get.j1])
     | succ kj14 =>
      have H:=HA.out;clear HA;simp only [spec_l2Get.j1] at H
      by_cases c17:x43_14 = true
      ·subst c17
       have H1:((spec_GetNum.f kj14 l0 t115).bind fun bt118=>(some (t114,bt118.1,(⟨#[]⟩:ByteArray),([]:List (S25)),bt118.2.1,bt118.2.2))) = some (r1,r2,r3,r4,r5,r6):=by rw [if_pos rfl] at H;exact H
       clear H;have H:=H1;clear H1;replace H:=Option.bind_eq_some_iff.mp H;obtain ⟨⟨t118,t119,t120⟩,A180,H⟩:=H;replace H:(some (t114,t118,(⟨#[]⟩:ByteArray),([]:List (S25)),t119,t120)) = some (r1,r2,r3,r4,r5,r6):=H;have A18:=Aside0.mk A180;clear A180;simp only [Option.some.injEq,Prod.mk.injEq] at H;obtain ⟨rfl,rfl,rfl,rfl,rfl,rfl⟩:=H
       go_wp2_with (first|((with_reducible refine gate_callee (f:=21) rfl ?_);refine goesL_ (some 49) rfl rfl Try.func21 (by kernel_rfl) rfl #[.slice A0 l0.length c0,.int .i64 t115] rfl gs ?_;(with_reducible refine (spec_GetNum.calls kj14 _ _ l0 t115 t118 t119 t120 _ ?side1 ?side2 A18.out).mono ?_);(case side1=>exact ck (Kd.C_below HR0.out HB.out));(case side2=>exact HC0.out);rintro e w' ⟨rfl,⟨nd,rfl⟩⟩;refine ⟨_,rfl,?_⟩;(try (rw [drewN_self wc];generalize hq_:World.drewN wc _ = wc;have n_:=ai ((⟨by rw [← hq_];exact (bk BK113.out)⟩:Aside0 (wc.heap[gb113]? = some (.cells #[.int .i64 0,.int .i64 0,.string (⟨#[]⟩:ByteArray),.slice none 0 0] 25 (0,0))))) <| ai ((⟨by rw [← hq_];exact (bk BK117.out)⟩:Aside0 (wc.heap[gb117]? = some (.cells #[.int .i64 t114,.int .i64 0,.string (⟨#[]⟩:ByteArray),.slice none 0 0] 25 (0,0))))) <| (⟨by rw [← hq_];exact (bl HB.out)⟩:Aside0 (Below w.heap.size w wc));clear BK113 BK117 HB hq_;obtain ⟨BK113,BK117,HB⟩:=n_));have:=NB117_113.out;have:=NB113_117.out;obtain ⟨h20_0,h20_1,h20_2,h20_3⟩:=kb4 BK117.out;obtain ⟨z20_0,z20_1,z20_2,z20_3⟩:=kz4 BK117.out;obtain ⟨h21_0,h21_1,h21_2,h21_3⟩:=kb4 BK113.out;obtain ⟨z21_0,z21_1,z21_2,z21_3⟩:=kz4 BK113.out))
       refine bodyPost_ret (results_ctt rfl _ _ gb113 25 #[.int .i64 t114,.int .i64 t118,.string (⟨#[]⟩:ByteArray),.slice none 0 0] (0,0) _ rfl (bmp BK113.out) Try.underlying25 rfl (by kernel_rfl)) rfl ?_
       exact ⟨_,cl,by first|exact Kd.R_nil _ _ _ _ _|exact Kd.N_nil _ _ _ _ _|exact Kd.V_nil _ _ _ _ _|exact Kd.Q_nil _ _ _ _ _|exact Kd.S_nil _ _ _ _ _,bl HB.out⟩
      ·replace c17:=Bool.eq_false_iff.mpr c17
       subst c17;have H1:(if t114 = 2 then ((spec_GetText.f kj14 l0 t115).bind fun bt121=>(some (t114,0,bt121.1,([]:List (S25)),bt121.2.1,bt121.2.2))) else ((spec_GetNum.f kj14 l0 t115).bind fun bt124=>(if bt124.2.2 = true then ((spec_l1In.f bt124.1 0 60).bind fun t127=>(spec_l2Get.j2 kj14 l0 a2 bt124.1 bt124.2.1 (!t127) t114 0 (⟨#[]⟩:ByteArray))) else (spec_l2Get.j2 kj14 l0 a2 bt124.1 bt124.2.1 true t114 0 (⟨#[]⟩:ByteArray))))) = some (r1,r2,r3,r4,r5,r6):=by rw [if_neg (show ¬ (false = true) by decide)] at H;exact H
       clear H;have H:=H1;clear H1
       by_cases c22:t114 = 2
       ·rw [if_pos c22] at H
        have c22b0:(t114 == 2) = true:=beq_iff_eq.mpr c22;have c22b1:(t114 != 2) = false:=bne_eq_false_iff_eq.mpr c22;clear c22;replace H:=Option.bind_eq_some_iff.mp H;obtain ⟨⟨t121,t122,t123⟩,A230,H⟩:=H;replace H:(some (t114,0,t121,([]:List (S25)),t122,t123)) = some (r1,r2,r3,r4,r5,r6):=H;have A23:=Aside0.mk A230;clear A230;simp only [Option.some.injEq,Prod.mk.injEq] at H;obtain ⟨rfl,rfl,rfl,rfl,rfl,rfl⟩:=H
        go_wp2_with (first|((with_reducible refine gate_callee (f:=22) rfl ?_);refine goesL_ (some 63) rfl rfl Try.func22 (by kernel_rfl) rfl #[.slice A0 l0.length c0,.int .i64 t115] rfl gs ?_;(with_reducible refine (spec_GetText.calls kj14 _ _ l0 t115 t121 t122 t123 _ ?side1 ?side2 A23.out).mono ?_);(case side1=>exact ck (Kd.C_below HR0.out HB.out));(case side2=>exact HC0.out);rintro e w' ⟨rfl,⟨nd,rfl⟩⟩;refine ⟨_,rfl,?_⟩;(try (rw [drewN_self wc];generalize hq_:World.drewN wc _ = wc;have n_:=ai ((⟨by rw [← hq_];exact (bk BK113.out)⟩:Aside0 (wc.heap[gb113]? = some (.cells #[.int .i64 0,.int .i64 0,.string (⟨#[]⟩:ByteArray),.slice none 0 0] 25 (0,0))))) <| ai ((⟨by rw [← hq_];exact (bk BK117.out)⟩:Aside0 (wc.heap[gb117]? = some (.cells #[.int .i64 t114,.int .i64 0,.string (⟨#[]⟩:ByteArray),.slice none 0 0] 25 (0,0))))) <| (⟨by rw [← hq_];exact (bl HB.out)⟩:Aside0 (Below w.heap.size w wc));clear BK113 BK117 HB hq_;obtain ⟨BK113,BK117,HB⟩:=n_));have:=NB117_113.out;have:=NB113_117.out;obtain ⟨h25_0,h25_1,h25_2,h25_3⟩:=kb4 BK117.out;obtain ⟨z25_0,z25_1,z25_2,z25_3⟩:=kz4 BK117.out;obtain ⟨h26_0,h26_1,h26_2,h26_3⟩:=kb4 BK113.out;obtain ⟨z26_0,z26_1,z26_2,z26_3⟩:=kz4 BK113.out))
        refine bodyPost_ret (results_ctt rfl _ _ gb113 25 #[.int .i64 t114,.int .i64 0,.string t121,.slice none 0 0] (0,0) _ rfl (bmp BK113.out) Try.underlying25 rfl (by kernel_rfl)) rfl ?_
        exact ⟨_,cl,by first|exact Kd.R_nil _ _ _ _ _|exact Kd.N_nil _ _ _ _ _|exact Kd.V_nil _ _ _ _ _|exact Kd.Q_nil _ _ _ _ _|exact Kd.S_nil _ _ _ _ _,bl HB.out⟩
       ·rw [if_neg c22] at H
        have c22b0:(t114 == 2) = false:=beq_eq_false_iff_ne.mpr c22;have c22b1:(t114 != 2) = true:=bne_iff_ne.mpr c22;replace H:=Option.bind_eq_some_iff.mp H;obtain ⟨⟨t124,t125,t126⟩,A270,H⟩:=H;replace H:(if t126 = true then ((spec_l1In.f t124 0 60).bind fun t127=>(spec_l2Get.j2 kj14 l0 a2 t124 t125 (!t127) t114 0 (⟨#[]⟩:ByteArray))) else (spec_l2Get.j2 kj14 l0 a2 t124 t125 true t114 0 (⟨#[]⟩:ByteArray))) = some (r1,r2,r3,r4,r5,r6):=H;have A27:=Aside0.mk A270;clear A270;have HC28:=Aside0.mk H;clear H
        go_upto_region 16 with (first|((with_reducible refine gate_callee (f:=21) rfl ?_);refine goesL_ (some 75) rfl rfl Try.func21 (by kernel_rfl) rfl #[.slice A0 l0.length c0,.int .i64 t115] rfl gs ?_;(with_reducible refine (spec_GetNum.calls kj14 _ _ l0 t115 t124 t125 t126 _ ?side1 ?side2 A27.out).mono ?_);(case side1=>exact ck (Kd.C_below HR0.out HB.out));(case side2=>exact HC0.out);rintro e w' ⟨rfl,⟨nd,rfl⟩⟩;refine ⟨_,rfl,?_⟩))
        (try simp only [Act.put,List.setIfInBounds_toArray,List.set_cons_zero,List.set_cons_succ])
        go_cut [85] (fun v85 wc=>∃ (kq:Nat) (x85_27:Bool),v85 = .bool x85_27∧Aside0 (spec_l2Get.j2 kq l0 a2 t124 t125 x85_27 t114 0 (⟨#[]⟩:ByteArray) = some (r1,r2,r3,r4,r5,r6))∧Aside0 (kq≤kj14)∧Aside0 (wc.heap[gb113]? = some (.cells #[.int .i64 0,.int .i64 0,.string (⟨#[]⟩:ByteArray),(.slice none 0 0)] 25 (0,0)))∧Aside0 (wc.heap[gb117]? = some (.cells #[.int .i64 t114,.int .i64 0,.string (⟨#[]⟩:ByteArray),(.slice none 0 0)] 25 (0,0)))∧Aside0 (Below w.heap.size w wc))
        case first =>
         have H:=HC28.out;clear HC28
         by_cases c29:t126 = true
         ·subst c29
          have H1:((spec_l1In.f t124 0 60).bind fun t127=>(spec_l2Get.j2 kj14 l0 a2 t124 t125 (!t127) t114 0 (⟨#[]⟩:ByteArray))) = some (r1,r2,r3,r4,r5,r6):=by rw [if_pos rfl] at H;exact H
          clear H;have H:=H1;clear H1;replace H:=Option.bind_eq_some_iff.mp H;obtain ⟨t127,A300,H⟩:=H;replace H:(spec_l2Get.j2 kj14 l0 a2 t124 t125 (!t127) t114 0 (⟨#[]⟩:ByteArray)) = some (r1,r2,r3,r4,r5,r6):=H;have A30:=Aside0.mk A300;clear A300;have H':=Aside0.mk H;clear H
          go_wp2_with (first|(go_at_call 23;(with_reducible refine (spec_l1In.calls t124 0 60 t127 _ A30.out).mono ?_);rintro e w' ⟨rfl,⟨nd,rfl⟩⟩))
          go_meet
          case rel=>exact ⟨_,(!t127),(cl2),H',⟨by have:=HJ4.out;have:=HJ14.out;first|omega|exact Nat.le_refl _⟩,⟨bk BK113.out⟩,⟨bk BK117.out⟩,⟨bl HB.out⟩⟩
         ·replace c29:=Bool.eq_false_iff.mpr c29
          subst c29;have H1:(spec_l2Get.j2 kj14 l0 a2 t124 t125 true t114 0 (⟨#[]⟩:ByteArray)) = some (r1,r2,r3,r4,r5,r6):=by rw [if_neg (show ¬ (false = true) by decide)] at H;exact H
          clear H;have H:=H1;clear H1;have H':=Aside0.mk H;clear H
          go_wp2
          go_meet
          case rel=>exact ⟨_,(true),(cl2),H',⟨by have:=HJ4.out;have:=HJ14.out;first|omega|exact Nat.le_refl _⟩,⟨bk BK113.out⟩,⟨bk BK117.out⟩,⟨bl HB.out⟩⟩
        case rest =>
         clear HC28;(try clear c11);(try clear c17);(try clear c22);(try clear c22b0);(try clear c22b1);(try clear h9_0 h9_1 h9_2 h9_3);(try clear z9_0 z9_1 z9_2 z9_3);(try clear p2);(try clear BK113);(try clear BK117);(try clear HB);obtain ⟨kq,x85_27,rfl,HA,HJ27,BK113,BK117,HB⟩:=hcut
         cases kq with
         | zero=>exact absurd HA.out (by simp [spec_l2Get.j2])
         | succ kj27 =>
          have H:=HA.out;clear HA;simp only [spec_l2Get.j2] at H
          by_cases c31:x85_27 = true
          ·subst c31
           have H1:(some (t114,0,(⟨#[]⟩:ByteArray),([]:List (S25)),0,false)) = some (r1,r2,r3,r4,r5,r6):=by rw [if_pos rfl] at H;exact H
           clear H;have H:=H1;clear H1;simp only [Option.some.injEq,Prod.mk.injEq] at H;obtain ⟨rfl,rfl,rfl,rfl,rfl,rfl⟩:=H;have:=NB117_113.out;have:=NB113_117.out;obtain ⟨h33_0,h33_1,h33_2,h33_3⟩:=kb4 BK117.out;obtain ⟨z33_0,z33_1,z33_2,z33_3⟩:=kz4 BK117.out;obtain ⟨h34_0,h34_1,h34_2,h34_3⟩:=kb4 BK113.out;obtain ⟨z34_0,z34_1,z34_2,z34_3⟩:=kz4 BK113.out
           go_wp2
           refine bodyPost_ret (results_ctt rfl _ _ gb113 25 #[.int .i64 t114,.int .i64 0,.string (⟨#[]⟩:ByteArray),.slice none 0 0] (0,0) _ rfl (bmp BK113.out) Try.underlying25 rfl (by kernel_rfl)) rfl ?_
           exact ⟨_,cl,by first|exact Kd.R_nil _ _ _ _ _|exact Kd.N_nil _ _ _ _ _|exact Kd.V_nil _ _ _ _ _|exact Kd.Q_nil _ _ _ _ _|exact Kd.S_nil _ _ _ _ _,bl HB.out⟩
          ·replace c31:=Bool.eq_false_iff.mpr c31
           subst c31;have H1:(spec_l2Get.l0 kj27 l0 a2 t124 t125 0 t114 0 (⟨#[]⟩:ByteArray) ([]:List (S25))) = some (r1,r2,r3,r4,r5,r6):=by rw [if_neg (show ¬ (false = true) by decide)] at H;exact H
           clear H;have H:=H1;clear H1;have H':=Aside0.mk H;clear H
           go_wp2
           go_loopg [20,22] kj27 (fun kq v20 v22 w'=>∃ (x20_4:Int) (x22_4:Int) (x114000_4:Int) (x114001_4:Int) (x114002_4:ByteArray) (x118003_4:List (S25)) (u118003:Value),v20 = .int .i64 x20_4∧v22 = .int .i64 x22_4∧Aside0 (spec_l2Get.l0 kq l0 a2 t124 x20_4 x22_4 t114 0 (⟨#[]⟩:ByteArray) x118003_4 = some (r1,r2,r3,r4,r5,r6))∧Aside0 (kq≤kj27)∧Aside0 (Kd.R k25 25 w' w.heap.size (fun k_=>k_≠gb113∧k_≠gb117) u118003 x118003_4)∧Aside0 (w'.heap[gb113]? = some (.cells #[.int .i64 x114000_4,.int .i64 x114001_4,.string x114002_4,(.slice none 0 0)] 25 (0,0)))∧Aside0 (w'.heap[gb117]? = some (.cells #[.int .i64 t114,.int .i64 0,.string (⟨#[]⟩:ByteArray),u118003] 25 (0,0)))∧Aside0 (Below w.heap.size w w'))
           case atStart=>exact ⟨(t125),(0),(0),(0),((⟨#[]⟩:ByteArray)),(([]:List (S25))),(.slice none 0 0),(cl2),(cl2),H',⟨Nat.le_refl _⟩,⟨by first|exact Kd.R_nil _ _ _ _ _|exact Kd.N_nil _ _ _ _ _|exact Kd.V_nil _ _ _ _ _|exact Kd.Q_nil _ _ _ _ _|exact Kd.S_nil _ _ _ _ _⟩,⟨bk BK113.out⟩,⟨bk BK117.out⟩,⟨bl HB.out⟩⟩
           case round =>
            clear H';(try clear c11);(try clear c17);(try clear c22);(try clear c22b0);(try clear c22b1);(try clear c31);(try clear h9_0 h9_1 h9_2 h9_3);(try clear z9_0 z9_1 z9_2 z9_3);(try clear p2);(try clear BK113);(try clear BK117);(try clear HB);obtain ⟨x20_4,x22_4,x114000_4,x114001_4,x114002_4,x118003_4,u118003,rfl,rfl,HA,HK4,HO_118003,BK113,BK117,HB⟩:=hrel
            cases gk with
            | zero=>exact absurd HA.out (by simp [spec_l2Get.l0])
            | succ k4 =>
             have H:=HA.out;clear HA;simp only [spec_l2Get.l0] at H
             by_cases c35:x22_4 < t124
             ·rw [if_pos c35] at H
              have c35b0:decide (x22_4 < t124) = true:=decide_eq_true c35;clear c35;replace H:=Option.bind_eq_some_iff.mp H;obtain ⟨⟨t128,t129,t130,t131,t134,t135⟩,A360,H⟩:=H;replace H:(if t135 = true then (if x118003_4.length < 2513169434916 then (spec_l2Get.l0 k4 l0 a2 t124 t134 (wrap64 (x22_4 + 1)) t114 0 (⟨#[]⟩:ByteArray) (x118003_4 ++ [(⟨t128,t129,t130,t131⟩:S25)])) else (none)) else (some (t114,0,(⟨#[]⟩:ByteArray),x118003_4,0,false))) = some (r1,r2,r3,r4,r5,r6):=H;have A36:=Aside0.mk A360;clear A360
              by_cases c37:t135 = true
              ·subst c37
               have H1:(if x118003_4.length < 2513169434916 then (spec_l2Get.l0 k4 l0 a2 t124 t134 (wrap64 (x22_4 + 1)) t114 0 (⟨#[]⟩:ByteArray) (x118003_4 ++ [(⟨t128,t129,t130,t131⟩:S25)])) else (none)) = some (r1,r2,r3,r4,r5,r6):=by rw [if_pos rfl] at H;exact H
               clear H;have H:=H1;clear H1
               by_cases c38:x118003_4.length < 2513169434916
               ·rw [if_pos c38] at H
                have LMc38:=Aside0.mk c38;clear c38;obtain ⟨y137,hy137⟩:∃ y_:List (S25),y_ = (x118003_4 ++ [(⟨t128,t129,t130,t131⟩:S25)]):=⟨_,rfl⟩;replace H:(spec_l2Get.l0 k4 l0 a2 t124 t134 (wrap64 (x22_4 + 1)) t114 0 (⟨#[]⟩:ByteArray) y137) = some (r1,r2,r3,r4,r5,r6):=by first|(rw [hy137];with_reducible exact H)|(have H2_:=(Option.bind_some _ _).symm.trans H;rw [hy137];with_reducible exact H2_)|(have H2_:=(Option.bind_some _ _).symm.trans H;with_reducible exact H2_)|with_reducible exact H|(rw [hy137];exact H)|exact H
                have Ny137:=Aside0.mk hy137;clear hy137;have H':=Aside0.mk H;clear H
                go_wp2_with (first|((with_reducible refine gate_callee (f:=12) rfl ?_);refine goesL_ (some 97) rfl rfl Try.func12 (by kernel_rfl) rfl #[.slice A0 l0.length c0,.int .i64 x20_4,.int .i64 (wrap64 (a2 - 1))] rfl gs ?_;(with_reducible refine (ih k4 (by have:=HJ4.out;have:=HJ14.out;have:=HJ27.out;have:=HK4.out;omega) _ _ l0 x20_4 (wrap64 (a2 - 1)) t128 t129 t130 t131 t134 true _ ?side1 ?side2 A36.out).mono ?_);(case side1=>exact ck (Kd.C_below HR0.out HB.out));(case side2=>exact HC0.out);rintro e w39 ⟨v132,rfl,ho0,hb⟩;refine ⟨_,rfl,?_⟩;have n_:=ai (Aside0.mk (Kd.R_elder' (rk HO_118003.out) (Kd.R_base ho0) hb)) <| ai (Aside0.mk (Kd.R_lower (Kd.R_newB (Kd.R_newB (Kd.R_new' ho0 (Kd.R_lt (rk HO_118003.out))) (g:=gb113) (o:=.cells #[.int .i64 x114000_4,.int .i64 x114001_4,.string x114002_4,.slice none 0 0] 25 (0,0)) (bk BK113.out)) (g:=gb117) (o:=.cells #[.int .i64 t114,.int .i64 0,.string (⟨#[]⟩:ByteArray),u118003] 25 (0,0)) (bk BK117.out)) (below_size (bl HB.out)))) <| ai (bw BK113 hb) <| ai (bw BK117 hb) <| bq HB hb;clear HO_118003 BK113 BK117 HB;obtain ⟨HO_118003,HO133,BK113,BK117,HB⟩:=n_;(try clear hb);(try clear ho0))|((with_reducible refine gate_dst (N:=23) rfl ?_);refine box_event ?hg (N:=23) ?hd (cs:=#[.int .i64 0,.int .i64 0,.string (⟨#[]⟩:ByteArray),.slice none 0 0]) (t:=25) ?hr ?_;(case hd=>rfl);(case hg=>rfl);(case hr=>first|(go_simp;done)|(go_simp;rfl));intro gb136 hg w40 hbox hb;have n_:=ai (rbm HO_118003 hg hb) <| ai (rbm HO133 hg hb) <| ai (bw BK113 hb) <| ai (bw BK117 hb) <| ai (bq HB hb) <| ai (Aside0.mk (hbox)) <| ai (bz hg HB) <| ai (bz hg HB) <| ai (nl hg BK113) <| ai (ng hg BK113) <| ai (nl hg BK117) <| ng hg BK117;clear HO_118003 HO133 BK113 BK117 HB;obtain ⟨HO_118003,HO133,BK113,BK117,HB,BK136,GW136,GE136,NB113_136,NB136_113,NB117_136,NB136_117⟩:=n_;clear hb hbox hg;have:=NB136_113.out;have:=NB113_136.out;have:=NB136_117.out;have:=NB117_136.out;obtain ⟨h43_0,h43_1,h43_2,h43_3⟩:=kb4 BK136.out;obtain ⟨z43_0,z43_1,z43_2,z43_3⟩:=kz4 BK136.out;obtain ⟨Ao44,co44,eo44⟩:=Kd.R_slice HO133.out;subst eo44)|((with_reducible refine gate_store (t:=25) (p:=23) rfl ?_);refine store_event (t:=25) (p:=23) (v:=?vo_w45) (w1:=((((w40.setCell ⟨gb136,0,none⟩ (.int .i64 t128)).setCell ⟨gb136,1,none⟩ (.int .i64 t129)).setCell ⟨gb136,2,none⟩ (.string t130)).setCell ⟨gb136,3,none⟩ (.slice Ao44 t131.length co44))) ?hg ?ho ?hn ?hr ?_;(case ho=>rfl);(case hg=>rfl);(case hn=>rfl);(case hr=>first|(go_simp;done)|(go_simp;rfl));intro w45 hw;have n_:=ai ((⟨(by rw [hw];exact (by (with_reducible repeat (first|apply Kd.R_alloc|apply Kd.R_drewN|apply Kd.R_drew));exact Kd.R_mono (rfm (Kd.R_mono HO_118003.out (fun k_ hk=>(⟨hk,hk.2⟩:_∧k_≠gb136)))) (fun _ hk=>⟨hk.1.1.2,⟨hk.1.1.1.1,⟨hk.1.1.1.2,hk.1.2⟩⟩⟩)))⟩:Aside0 (Kd.R k25 25 w45 w.heap.size (fun k_=>some k_≠(.slice Ao44 t131.length co44:Value).ownBlock∧k_≠gb113∧k_≠gb117∧k_≠gb136) u118003 x118003_4))) <| ai ((⟨(by rw [hw];exact (by (with_reducible repeat (first|apply Kd.R_alloc|apply Kd.R_drewN|apply Kd.R_drew));exact Kd.R_mono (rfm (Kd.R_mono HO133.out (fun k_ hk=>(⟨hk,hk.2⟩:_∧k_≠gb136)))) (fun _ hk=>⟨hk.1.1.1.1.2,⟨hk.1.1.1.2,⟨hk.1.1.2,hk.1.2⟩⟩⟩)))⟩:Aside0 (Kd.R k25 25 w45 w.heap.size (fun k_=>some k_≠(u118003:Value).ownBlock∧k_≠gb113∧k_≠gb117∧k_≠gb136) (.slice Ao44 t131.length co44) t131))) <| ai ((⟨(by rw [hw];exact (bm BK113.out))⟩:Aside0 (w45.heap[gb113]? = some (.cells #[.int .i64 x114000_4,.int .i64 x114001_4,.string x114002_4,.slice none 0 0] 25 (0,0))))) <| ai ((⟨(by rw [hw];exact (bm BK117.out))⟩:Aside0 (w45.heap[gb117]? = some (.cells #[.int .i64 t114,.int .i64 0,.string (⟨#[]⟩:ByteArray),u118003] 25 (0,0))))) <| ai ((⟨(by rw [hw];exact (bmp BK136.out))⟩:Aside0 (w45.heap[gb136]? = some (.cells #[.int .i64 t128,.int .i64 t129,.string t130,.slice Ao44 t131.length co44] 25 (0,0))))) <| (⟨(by rw [hw];exact (bl HB.out))⟩:Aside0 (Below w.heap.size w w45));clear hw HO_118003 HO133 BK113 BK117 BK136 HB;obtain ⟨HO_118003,HO133,BK113,BK117,BK136,HB⟩:=n_;have:=NB117_113.out;have:=NB113_117.out;obtain ⟨h47_0,h47_1,h47_2,h47_3⟩:=kb4 BK117.out;obtain ⟨z47_0,z47_1,z47_2,z47_3⟩:=kz4 BK117.out;obtain ⟨h48_0,h48_1,h48_2,h48_3⟩:=kb4 BK136.out;obtain ⟨z48_0,z48_1,z48_2,z48_3⟩:=kz4 BK136.out)|((with_reducible refine gate_builtin (b:=.append) (xs:=#[.tmp 105,.tmp 107]) rfl ?_);at_builtin;refine Kd.R_append k25 (w0:=w) w.heap.size rfl (.tmp 105) (.tmp 107) 23 25 (.agg #[(.int .i64 0),(.int .i64 0),(.string ⟨#[]⟩),(.slice none 0 0)]) 56 rfl Try.underlying23 info25 rfl (by decide) (by omega) u118003 x118003_4 (⟨t128,t129,t130,t131⟩:S25) [.int .i64 t128,.int .i64 t129,.string t130,.slice Ao44 t131.length co44] (fun k_=>k_≠gb113∧k_≠gb117∧k_≠gb136) (fun k_=>((fun k_=>k_≠gb113∧k_≠gb117∧k_≠gb136)) k_∧some k_≠(u118003:Value).ownBlock) rfl rfl ?aP (fun _ hk=>hk) ?aF ?aO ?aB ?aS ?aL ?_;(case aP=>exact k25_mkM _ _ _ (⟨t128,t129,t130,t131⟩:S25) (Kd.R_mono (HO133.out) (fun k_ hk=>⟨⟨hk.2.1,⟨hk.2.2.1,hk.2.2.2⟩⟩,hk.1⟩)));(case aB=>exact (bl HB.out));(case aF=>exact (fun k_ hk=>⟨Kd.freshB (g:=gb113) (o:=.cells #[.int .i64 x114000_4,.int .i64 x114001_4,.string x114002_4,.slice none 0 0] 25 (0,0)) (bk BK113.out) k_ hk,Kd.freshB (g:=gb117) (o:=.cells #[.int .i64 t114,.int .i64 0,.string (⟨#[]⟩:ByteArray),u118003] 25 (0,0)) (bk BK117.out) k_ hk,Kd.freshB (g:=gb136) (o:=.cells #[.int .i64 t128,.int .i64 t129,.string t130,.slice Ao44 t131.length co44] 25 (0,0)) (bk BK136.out) k_ hk⟩));(case aO=>exact (by (with_reducible repeat (first|apply Kd.R_alloc|apply Kd.R_drewN|apply Kd.R_drew));exact Kd.R_mono HO_118003.out (fun _ hk=>⟨hk.2.1,⟨hk.2.2.1,hk.2.2.2⟩⟩)));(case aS=>exact (below_size (bl HB.out)));(case aL=>have:=LMc38.out;omega);intro v138 w49 ho hb hg hat;rw [← Ny137.out] at ho;have n_:=ai (Aside0.mk (blk_grown (g:=gb113) (o:=.cells #[.int .i64 x114000_4,.int .i64 x114001_4,.string x114002_4,.slice none 0 0] 25 (0,0)) (bk BK113.out) hg (Kd.R_away HO_118003.out (fun _ hk=>hk.2.1)))) <| ai (Aside0.mk (blk_grown (g:=gb117) (o:=.cells #[.int .i64 t114,.int .i64 0,.string (⟨#[]⟩:ByteArray),u118003] 25 (0,0)) (bk BK117.out) hg (Kd.R_away HO_118003.out (fun _ hk=>hk.2.2.1)))) <| ai (Aside0.mk (blk_grown (g:=gb136) (o:=.cells #[.int .i64 t128,.int .i64 t129,.string t130,.slice Ao44 t131.length co44] 25 (0,0)) (bk BK136.out) hg (Kd.R_away HO_118003.out (fun _ hk=>hk.2.2.2)))) <| ai (Aside0.mk (hb)) <| Aside0.mk (ho);clear BK113 BK117 BK136 HB HO_118003 HO133;obtain ⟨BK113,BK117,BK136,HB,HO139⟩:=n_;clear ho hb hg hat;obtain ⟨Ao50,co50,eo50⟩:=Kd.R_slice HO139.out;subst eo50;obtain ⟨h51_0,h51_1,h51_2,h51_3⟩:=kb4 BK117.out;obtain ⟨z51_0,z51_1,z51_2,z51_3⟩:=kz4 BK117.out))
                go_roundg k4
                case measure=>have:=HJ4.out;have:=HJ14.out;have:=HJ27.out;have:=HK4.out;omega
                case rel=>exact ⟨(t134),(wrap64 (x22_4 + 1)),(x114000_4),(x114001_4),(x114002_4),(y137),(.slice Ao50 y137.length co50),(cl2),(cl2),H',⟨by have:=HJ4.out;have:=HJ14.out;have:=HJ27.out;have:=HK4.out;omega⟩,⟨by (with_reducible repeat (first|apply Kd.R_alloc|apply Kd.R_drewN|apply Kd.R_drew));exact Kd.R_mono (rfm (Kd.R_mono HO139.out (fun k_ hk=>(⟨hk,hk.2.1⟩:_∧k_≠gb117)))) (fun _ hk=>⟨hk.1.1,hk.1.2.1⟩)⟩,⟨bm BK113.out⟩,⟨bmp BK117.out⟩,⟨bl HB.out⟩⟩
               ·rw [if_neg c38] at H
                exact absurd H (by simp)
              ·replace c37:=Bool.eq_false_iff.mpr c37
               subst c37;have H1:(some (t114,0,(⟨#[]⟩:ByteArray),x118003_4,0,false)) = some (r1,r2,r3,r4,r5,r6):=by rw [if_neg (show ¬ (false = true) by decide)] at H;exact H
               clear H;have H:=H1;clear H1;simp only [Option.some.injEq,Prod.mk.injEq] at H;obtain ⟨rfl,rfl,rfl,rfl,rfl,rfl⟩:=H
               go_wp2_with (first|((with_reducible refine gate_callee (f:=12) rfl ?_);refine goesL_ (some 97) rfl rfl Try.func12 (by kernel_rfl) rfl #[.slice A0 l0.length c0,.int .i64 x20_4,.int .i64 (wrap64 (a2 - 1))] rfl gs ?_;(with_reducible refine (ih k4 (by have:=HJ4.out;have:=HJ14.out;have:=HJ27.out;have:=HK4.out;omega) _ _ l0 x20_4 (wrap64 (a2 - 1)) t128 t129 t130 t131 t134 false _ ?side1 ?side2 A36.out).mono ?_);(case side1=>exact ck (Kd.C_below HR0.out HB.out));(case side2=>exact HC0.out);rintro e w52 ⟨v132,rfl,ho0,hb⟩;refine ⟨_,rfl,?_⟩;have n_:=ai (Aside0.mk (Kd.R_elder' (rk HO_118003.out) (Kd.R_base ho0) hb)) <| ai (Aside0.mk (Kd.R_lower (Kd.R_newB (Kd.R_newB (Kd.R_new' ho0 (Kd.R_lt (rk HO_118003.out))) (g:=gb113) (o:=.cells #[.int .i64 x114000_4,.int .i64 x114001_4,.string x114002_4,.slice none 0 0] 25 (0,0)) (bk BK113.out)) (g:=gb117) (o:=.cells #[.int .i64 t114,.int .i64 0,.string (⟨#[]⟩:ByteArray),u118003] 25 (0,0)) (bk BK117.out)) (below_size (bl HB.out)))) <| ai (bw BK113 hb) <| ai (bw BK117 hb) <| bq HB hb;clear HO_118003 BK113 BK117 HB;obtain ⟨HO_118003,HO133,BK113,BK117,HB⟩:=n_;(try clear hb);(try clear ho0))|((with_reducible refine gate_dst (N:=23) rfl ?_);refine box_event ?hg (N:=23) ?hd (cs:=#[.int .i64 0,.int .i64 0,.string (⟨#[]⟩:ByteArray),.slice none 0 0]) (t:=25) ?hr ?_;(case hd=>rfl);(case hg=>rfl);(case hr=>first|(go_simp;done)|(go_simp;rfl));intro gb136 hg w53 hbox hb;have n_:=ai (rbm HO_118003 hg hb) <| ai (rbm HO133 hg hb) <| ai (bw BK113 hb) <| ai (bw BK117 hb) <| ai (bq HB hb) <| ai (Aside0.mk (hbox)) <| ai (bz hg HB) <| ai (bz hg HB) <| ai (nl hg BK113) <| ai (ng hg BK113) <| ai (nl hg BK117) <| ng hg BK117;clear HO_118003 HO133 BK113 BK117 HB;obtain ⟨HO_118003,HO133,BK113,BK117,HB,BK136,GW136,GE136,NB113_136,NB136_113,NB117_136,NB136_117⟩:=n_;clear hb hbox hg;have:=NB136_113.out;have:=NB113_136.out;have:=NB136_117.out;have:=NB117_136.out;obtain ⟨h56_0,h56_1,h56_2,h56_3⟩:=kb4 BK136.out;obtain ⟨z56_0,z56_1,z56_2,z56_3⟩:=kz4 BK136.out;obtain ⟨Ao57,co57,eo57⟩:=Kd.R_slice HO133.out;subst eo57;have:=NB117_113.out;have:=NB113_117.out;obtain ⟨h59_0,h59_1,h59_2,h59_3⟩:=kb4 BK117.out;obtain ⟨z59_0,z59_1,z59_2,z59_3⟩:=kz4 BK117.out;obtain ⟨h60_0,h60_1,h60_2,h60_3⟩:=kb4 BK113.out;obtain ⟨z60_0,z60_1,z60_2,z60_3⟩:=kz4 BK113.out;obtain ⟨Ao61,co61,eo61⟩:=Kd.R_slice HO_118003.out;subst eo61))
               refine bodyPost_ret (results_ctt rfl _ _ gb113 25 #[.int .i64 t114,.int .i64 0,.string (⟨#[]⟩:ByteArray),.slice Ao61 x118003_4.length co61] (0,0) _ rfl (bmp BK113.out) Try.underlying25 rfl (by kernel_rfl)) rfl ?_
               exact ⟨_,cl,by (with_reducible repeat (first|apply Kd.R_alloc|apply Kd.R_drewN|apply Kd.R_drew));exact Kd.R_mono (rfm (Kd.R_mono (Kd.R_mono HO_118003.out (fun k_ hk=>(⟨hk,hk.2⟩:_∧k_≠gb136))) (fun k_ hk=>(⟨hk,hk.1.1.1.1⟩:_∧k_≠gb113)))) (fun _ hk=>trivial),bl HB.out⟩
             ·rw [if_neg c35] at H
              have c35b0:decide (x22_4 < t124) = false:=decide_eq_false c35;clear c35;simp only [Option.some.injEq,Prod.mk.injEq] at H;obtain ⟨rfl,rfl,rfl,rfl,rfl,rfl⟩:=H;have:=NB117_113.out;have:=NB113_117.out;obtain ⟨h63_0,h63_1,h63_2,h63_3⟩:=kb4 BK117.out;obtain ⟨z63_0,z63_1,z63_2,z63_3⟩:=kz4 BK117.out;obtain ⟨h64_0,h64_1,h64_2,h64_3⟩:=kb4 BK113.out;obtain ⟨z64_0,z64_1,z64_2,z64_3⟩:=kz4 BK113.out;obtain ⟨Ao65,co65,eo65⟩:=Kd.R_slice HO_118003.out;subst eo65
              go_wp2
              refine bodyPost_ret (results_ctt rfl _ _ gb113 25 #[.int .i64 t114,.int .i64 0,.string (⟨#[]⟩:ByteArray),.slice Ao65 x118003_4.length co65] (0,0) _ rfl (bmp BK113.out) Try.underlying25 rfl (by kernel_rfl)) rfl ?_
              exact ⟨_,cl,by (with_reducible repeat (first|apply Kd.R_alloc|apply Kd.R_drewN|apply Kd.R_drew));exact Kd.R_mono (rfm (Kd.R_mono HO_118003.out (fun k_ hk=>(⟨hk,hk.1⟩:_∧k_≠gb113)))) (fun _ hk=>trivial),bl HB.out⟩

end Go.Proofs.Ytefkjmkmojmllaa.QFnExactGetTerm
