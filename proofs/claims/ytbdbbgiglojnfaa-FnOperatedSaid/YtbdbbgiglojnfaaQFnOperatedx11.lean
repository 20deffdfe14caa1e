-- Written by a program of this workplace (print2.py) for this claim, over the print's words.
import Derived.Test.YtbdbbgiglojnfaaQFnOperatedx0
import Derived.Test.YtbdbbgiglojnfaaQFnOperatedx10
namespace Go.Proofs.Ytbdbbgiglojnfaa.QFnOperated
open Go.RowKit Go.Proofs.YtbdbbgiglojnfaaW.PrintWords Go.Proofs.YtbdbbgiglojnfaaW.PrintLast Go.Proofs.YtbdbbgiglojnfaaW.PrintMore
attribute [local go_sem] binOp_string_gtr max2_int min2_int max_two min_two max_three min_three max_four min_four   -- for this text's walks alone
set_option linter.unusedVariables false
set_option linter.unusedSimpArgs false

/-! ### spec_LessTerm: function 32 -/
mutual
def spec_LessTerm.j1:Nat → Int → Int → ByteArray → List (S26) → Int → Int → ByteArray → List (S26) → Option (Bool)
 | 0,_,_,_,_,_,_,_,_=>none
 | k + 1,x403000,x403001,x403002,x403003,x404000,x404001,x404002,x404003=>spec_LessTerm.l0 k 0 x403000 x403001 x403002 x403003 x404000 x404001 x404002 x404003
def spec_LessTerm.l0:Nat → Int → Int → Int → ByteArray → List (S26) → Int → Int → ByteArray → List (S26) → Option (Bool)
 | 0,_,_,_,_,_,_,_,_,_=>none
 | k + 1,x5,x403000,x403001,x403002,x403003,x404000,x404001,x404002,x404003=>if x5 < (x403003.length:Int) then (spec_LessTerm.j3 k x5 (decide (x5 < (x404003.length:Int))) x403000 x403001 x403002 x403003 x404000 x404001 x404002 x404003) else (spec_LessTerm.j3 k x5 false x403000 x403001 x403002 x403003 x404000 x404001 x404002 x404003)
def spec_LessTerm.j3:Nat → Int → Bool → Int → Int → ByteArray → List (S26) → Int → Int → ByteArray → List (S26) → Option (Bool)
 | 0,_,_,_,_,_,_,_,_,_,_=>none
 | k + 1,x5,x71,x403000,x403001,x403002,x403003,x404000,x404001,x404002,x404003=>if x71 = true then (if 0≤x5 then (if x5 < (x403003.length:Int) then (if x5 < (x404003.length:Int) then ((spec_SameTerm.f k ((rd_T26 x403003 x5).f0) ((rd_T26 x403003 x5).f1) ((rd_T26 x403003 x5).f2) ((rd_T26 x403003 x5).f3) ((rd_T26 x404003 x5).f0) ((rd_T26 x404003 x5).f1) ((rd_T26 x404003 x5).f2) ((rd_T26 x404003 x5).f3)).bind fun t406=>(if t406 = true then (spec_LessTerm.l0 k (wrap64 (x5 + 1)) x403000 x403001 x403002 x403003 x404000 x404001 x404002 x404003) else ((spec_LessTerm.f k ((rd_T26 x403003 x5).f0) ((rd_T26 x403003 x5).f1) ((rd_T26 x403003 x5).f2) ((rd_T26 x403003 x5).f3) ((rd_T26 x404003 x5).f0) ((rd_T26 x404003 x5).f1) ((rd_T26 x404003 x5).f2) ((rd_T26 x404003 x5).f3)).bind fun t409=>(some t409)))) else (none)) else (none)) else (none)) else (some (decide ((x403003.length:Int) < (x404003.length:Int))))
def spec_LessTerm.j0:Nat → Bool → Int → Int → ByteArray → List (S26) → Int → Int → ByteArray → List (S26) → Option (Bool)
 | 0,_,_,_,_,_,_,_,_,_=>none
 | k + 1,x17,x403000,x403001,x403002,x403003,x404000,x404001,x404002,x404003=>if x17 = true then (some (decide (x403001 < x404001))) else (if x403000 = 2 then (some (Op.bytesLess x403002.toList x404002.toList)) else (if x403000 = 4 then (if (x403003.length:Int) = (x404003.length:Int) then (spec_LessTerm.j1 k x403000 x403001 x403002 x403003 x404000 x404001 x404002 x404003) else (some (decide ((x403003.length:Int) < (x404003.length:Int))))) else (spec_LessTerm.j1 k x403000 x403001 x403002 x403003 x404000 x404001 x404002 x404003)))
def spec_LessTerm.f:Nat → Int → Int → ByteArray → List (S26) → Int → Int → ByteArray → List (S26) → Option (Bool)
 | 0,_,_,_,_,_,_,_,_=>none
 | k + 1,a0_0,a0_1,a0_2,l0_3,a1_0,a1_1,a1_2,l1_3=>if a0_0 = a1_0 then (if a0_0 = 1 then (spec_LessTerm.j0 k true a0_0 a0_1 a0_2 l0_3 a1_0 a1_1 a1_2 l1_3) else (spec_LessTerm.j0 k (a0_0 == 3) a0_0 a0_1 a0_2 l0_3 a1_0 a1_1 a1_2 l1_3)) else (some (decide (a0_0 < a1_0)))
end
theorem spec_LessTerm.mono_l:∀ k,(∀ y0 y1 y2 y3 y4 y5 y6 y7,LeO (spec_LessTerm.f k y0 y1 y2 y3 y4 y5 y6 y7) (spec_LessTerm.f (k + 1) y0 y1 y2 y3 y4 y5 y6 y7))∧(∀ y0 y1 y2 y3 y4 y5 y6 y7,LeO (spec_LessTerm.j1 k y0 y1 y2 y3 y4 y5 y6 y7) (spec_LessTerm.j1 (k + 1) y0 y1 y2 y3 y4 y5 y6 y7))∧(∀ y0 y1 y2 y3 y4 y5 y6 y7 y8,LeO (spec_LessTerm.l0 k y0 y1 y2 y3 y4 y5 y6 y7 y8) (spec_LessTerm.l0 (k + 1) y0 y1 y2 y3 y4 y5 y6 y7 y8))∧(∀ y0 y1 y2 y3 y4 y5 y6 y7 y8 y9,LeO (spec_LessTerm.j3 k y0 y1 y2 y3 y4 y5 y6 y7 y8 y9) (spec_LessTerm.j3 (k + 1) y0 y1 y2 y3 y4 y5 y6 y7 y8 y9))∧(∀ y0 y1 y2 y3 y4 y5 y6 y7 y8,LeO (spec_LessTerm.j0 k y0 y1 y2 y3 y4 y5 y6 y7 y8) (spec_LessTerm.j0 (k + 1) y0 y1 y2 y3 y4 y5 y6 y7 y8))
 | 0=>⟨fun _ _ _ _ _ _ _ _ r h=>by simp [spec_LessTerm.f] at h,fun _ _ _ _ _ _ _ _ r h=>by simp [spec_LessTerm.j1] at h,fun _ _ _ _ _ _ _ _ _ r h=>by simp [spec_LessTerm.l0] at h,fun _ _ _ _ _ _ _ _ _ _ r h=>by simp [spec_LessTerm.j3] at h,fun _ _ _ _ _ _ _ _ _ r h=>by simp [spec_LessTerm.j0] at h⟩
 | k + 1=>by
  obtain ⟨ih0,ih1,ih2,ih3,ih4⟩:=spec_LessTerm.mono_l k
  refine ⟨?_,?_,?_,?_,?_⟩
  ·intro y0 y1 y2 y3 y4 y5 y6 y7
   unfold spec_LessTerm.f
   with_reducible repeat' first|apply ih0|apply ih1|apply ih2|apply ih3|apply ih4|apply spec_SameTerm.mono|apply LeO.refl|apply LeO.none|apply LeO.ite|refine LeO.bind ?_ (fun _=>?_)
  ·intro y0 y1 y2 y3 y4 y5 y6 y7
   unfold spec_LessTerm.j1
   with_reducible repeat' first|apply ih0|apply ih1|apply ih2|apply ih3|apply ih4|apply spec_SameTerm.mono|apply LeO.refl|apply LeO.none|apply LeO.ite|refine LeO.bind ?_ (fun _=>?_)
  ·intro y0 y1 y2 y3 y4 y5 y6 y7 y8
   unfold spec_LessTerm.l0
   with_reducible repeat' first|apply ih0|apply ih1|apply ih2|apply ih3|apply ih4|apply spec_SameTerm.mono|apply LeO.refl|apply LeO.none|apply LeO.ite|refine LeO.bind ?_ (fun _=>?_)
  ·intro y0 y1 y2 y3 y4 y5 y6 y7 y8 y9
   unfold spec_LessTerm.j3
   with_reducible repeat' first|apply ih0|apply ih1|apply ih2|apply ih3|apply ih4|apply spec_SameTerm.mono|apply LeO.refl|apply LeO.none|apply LeO.ite|refine LeO.bind ?_ (fun _=>?_)
  ·intro y0 y1 y2 y3 y4 y5 y6 y7 y8
   unfold spec_LessTerm.j0
   with_reducible repeat' first|apply ih0|apply ih1|apply ih2|apply ih3|apply ih4|apply spec_SameTerm.mono|apply LeO.refl|apply LeO.none|apply LeO.ite|refine LeO.bind ?_ (fun _=>?_)
theorem spec_LessTerm.mono:∀ a0 a1 a2 a3 a4 a5 a6 a7 k,LeO (spec_LessTerm.f k a0 a1 a2 a3 a4 a5 a6 a7) (spec_LessTerm.f (k + 1) a0 a1 a2 a3 a4 a5 a6 a7):=by
 intro a0 a1 a2 a3 a4 a5 a6 a7 k;obtain ⟨ih0,ih1,ih2,ih3,ih4⟩:=spec_LessTerm.mono_l k
 exact ih0 a0 a1 a2 a3 a4 a5 a6 a7
def spec_LessTerm.T12:Bool × List (List Nat × List Nat):=(true,[([],[]),([0],[0]),([],[]),([1,2],[1,2]),([3],[3]),([],[]),([5],[5]),([],[]),([6,7],[6,7]),([8],[8]),([4,9],[4,9]),([10],[10])])
def spec_LessTerm.B12:List Nat:=[0,1,0,7,15,0,32,0,224,480,1023,2047]
theorem spec_LessTerm.tab12:rtab .any (opsOf Try.f32 12) = spec_LessTerm.T12:=by kernel_rfl
theorem spec_LessTerm.bits12:waitsOk spec_LessTerm.T12.2 spec_LessTerm.B12 = true:=by kernel_rfl
def spec_LessTerm.T13:Bool × List (List Nat × List Nat):=(true,[([],[]),([0],[0]),([],[]),([1,2],[1,2]),([3],[3]),([],[]),([5],[5]),([],[]),([6,7],[6,7]),([8],[8]),([4,9],[4,9]),([10,10,0,1,2,3,4,5,6,7,8,9,10],[10])])
def spec_LessTerm.B13:List Nat:=[0,1,0,7,15,0,32,0,224,480,1023,2047]
theorem spec_LessTerm.tab13:rtab .any (opsOf Try.f32 13) = spec_LessTerm.T13:=by kernel_rfl
theorem spec_LessTerm.bits13:waitsOk spec_LessTerm.T13.2 spec_LessTerm.B13 = true:=by kernel_rfl
set_option maxHeartbeats 8000000 in
set_option maxRecDepth 100000 in
theorem spec_LessTerm.calls (k:Nat):∀ (a0_0:Int) (a0_1:Int) (a0_2:ByteArray) (A0_3:Option Addr) (c0_3:Nat) (l0_3:List (S26)) (a1_0:Int) (a1_1:Int) (a1_2:ByteArray) (A1_3:Option Addr) (c1_3:Nat) (l1_3:List (S26)) (r:Bool) (w:World) (hr0_3:Kd.C k26 w A0_3 l0_3.length l0_3) (hc0_3:l0_3.length≤c0_3) (hr1_3:Kd.C k26 w A1_3 l1_3.length l1_3) (hc1_3:l1_3.length≤c1_3) (h:spec_LessTerm.f k a0_0 a0_1 a0_2 l0_3 a1_0 a1_1 a1_2 l1_3 = some r),
  Calls Try.prog 32 #[.agg #[.int .i64 a0_0,.int .i64 a0_1,.string a0_2,.slice A0_3 l0_3.length c0_3],.agg #[.int .i64 a1_0,.int .i64 a1_1,.string a1_2,.slice A1_3 l1_3.length c1_3]] w fun e w'=>e = .returned (.bool r)∧Below w.heap.size w w':=by
 induction k using Nat.strongRecOn with
 | _ k ih =>
 intro a0_0 a0_1 a0_2 A0_3 c0_3 l0_3 a1_0 a1_1 a1_2 A1_3 c1_3 l1_3 r w hr0_3 hc0_3 hr1_3 hc1_3 h
 cases k with
 | zero=>exact absurd h (by simp [spec_LessTerm.f])
 | succ k =>
 simp only [spec_LessTerm.f] at h;have hu26:=Try.underlying26;have HR0_3:=Aside0.mk hr0_3;have HC0_3:=Aside0.mk hc0_3;clear hr0_3 hc0_3;have HR1_3:=Aside0.mk hr1_3;have HC1_3:=Aside0.mk hc1_3;clear hr1_3 hc1_3;have HB:=Aside0.mk (Below.refl w.heap.size w);have H:(if a0_0 = a1_0 then (if a0_0 = 1 then (spec_LessTerm.j0 k true a0_0 a0_1 a0_2 l0_3 a1_0 a1_1 a1_2 l1_3) else (spec_LessTerm.j0 k (a0_0 == 3) a0_0 a0_1 a0_2 l0_3 a1_0 a1_1 a1_2 l1_3)) else (some (decide (a0_0 < a1_0)))) = some r:=h;clear h;have HC3:=Aside0.mk H;clear H
 go_enter Try.func32,Try.ntmps32
 go_upto_block 0 with (first|((with_reducible refine gate_dst (N:=2) rfl ?_);(try (refine gate_guard (by rfl) ?_;dsimp only));refine box_event ?hg (N:=2) ?hd (cs:=#[.int .i64 a0_0,.int .i64 a0_1,.string a0_2,.slice A0_3 l0_3.length c0_3]) (t:=26) ?hr ?_;(case hd=>rfl);(case hg=>rfl);(case hr=>first|(go_simp;done)|(go_simp;rfl));intro gb402 hg w4 hbox hb;have n_:=ai (bq HB hb) <| ai (Aside0.mk (hbox)) <| ai (bz hg HB) <| bz hg HB;clear HB;obtain ⟨HB,BK402,GW402,GE402⟩:=n_;clear hb hbox hg)|((with_reducible refine gate_dst (N:=3) rfl ?_);(try (refine gate_guard (by rfl) ?_;dsimp only));refine box_event ?hg (N:=3) ?hd (cs:=#[.int .i64 a1_0,.int .i64 a1_1,.string a1_2,.slice A1_3 l1_3.length c1_3]) (t:=26) ?hr ?_;(case hd=>rfl);(case hg=>rfl);(case hr=>first|(go_simp;done)|(go_simp;rfl));intro gb403 hg w5 hbox hb;have n_:=ai (bw BK402 hb) <| ai (bq HB hb) <| ai (Aside0.mk (hbox)) <| ai (bz hg HB) <| ai (bz hg HB) <| ai (nl hg BK402) <| ng hg BK402;clear BK402 HB;obtain ⟨BK402,HB,BK403,GW403,GE403,NB402_403,NB403_402⟩:=n_;clear hb hbox hg))
 (try simp only [Act.put,List.setIfInBounds_toArray,List.set_cons_zero,List.set_cons_succ])
 go_cut [] (fun wc=>∃ (kq:Nat),Aside0 (spec_LessTerm.j1 kq a0_0 a0_1 a0_2 l0_3 a1_0 a1_1 a1_2 l1_3 = some r)∧Aside0 (kq≤k)∧Aside0 (wc.heap[gb402]? = some (.cells #[.int .i64 a0_0,.int .i64 a0_1,.string a0_2,(.slice A0_3 l0_3.length c0_3)] 26 (0,0)))∧Aside0 (wc.heap[gb403]? = some (.cells #[.int .i64 a1_0,.int .i64 a1_1,.string a1_2,(.slice A1_3 l1_3.length c1_3)] 26 (0,0)))∧Aside0 (Below w.heap.size w wc))
 case first =>
  have H:=HC3.out;clear HC3
  by_cases c6:a0_0 = a1_0
  ·rw [if_pos c6] at H
   have c6b0:(a0_0 == a1_0) = true:=beq_iff_eq.mpr c6;have c6b1:(a0_0 != a1_0) = false:=bne_eq_false_iff_eq.mpr c6;clear c6
   (first|rw [c6b0]|(simp only [i64_w,i32_w];rw [c6b0])|(simp only [c6b2,Bool.not_true,Bool.not_false])|skip)
   have HC7:=Aside0.mk H;clear H;have:=NB402_403.out;have:=NB403_402.out;obtain ⟨h9_0,h9_1,h9_2,h9_3⟩:=kb4 BK402.out;obtain ⟨h10_0,h10_1,h10_2,h10_3⟩:=kb4 BK403.out
   go_upto_region 3 with (fail)
   go_cut [17] (fun v17 wc=>∃ (kq:Nat) (x17_6:Bool),v17 = .bool x17_6∧Aside0 (spec_LessTerm.j0 kq x17_6 a0_0 a0_1 a0_2 l0_3 a1_0 a1_1 a1_2 l1_3 = some r)∧Aside0 (kq≤k)∧Aside0 (wc.heap[gb402]? = some (.cells #[.int .i64 a0_0,.int .i64 a0_1,.string a0_2,(.slice A0_3 l0_3.length c0_3)] 26 (0,0)))∧Aside0 (wc.heap[gb403]? = some (.cells #[.int .i64 a1_0,.int .i64 a1_1,.string a1_2,(.slice A1_3 l1_3.length c1_3)] 26 (0,0)))∧Aside0 (Below w.heap.size w wc))
   case first =>
    have H:=HC7.out;clear HC7
    by_cases c11:a0_0 = 1
    ·rw [if_pos c11] at H
     have c11b0:(a0_0 == 1) = true:=beq_iff_eq.mpr c11;have c11b1:(a0_0 != 1) = false:=bne_eq_false_iff_eq.mpr c11;clear c11
     (first|rw [c11b0]|(simp only [i64_w,i32_w];rw [c11b0])|(simp only [c11b2,Bool.not_true,Bool.not_false])|skip)
     have H':=Aside0.mk H;clear H;have:=NB402_403.out;have:=NB403_402.out;obtain ⟨h13_0,h13_1,h13_2,h13_3⟩:=kb4 BK402.out
     go_wp2
     go_meet
     case rel=>exact ⟨_,(true),(cl2),H',⟨by first|omega|exact Nat.le_refl _⟩,⟨bk BK402.out⟩,⟨bk BK403.out⟩,⟨bl HB.out⟩⟩
    ·rw [if_neg c11] at H
     have c11b0:(a0_0 == 1) = false:=beq_eq_false_iff_ne.mpr c11;have c11b1:(a0_0 != 1) = true:=bne_iff_ne.mpr c11
     (first|rw [c11b0]|(simp only [i64_w,i32_w];rw [c11b0])|(simp only [c11b2,Bool.not_true,Bool.not_false])|skip)
     have H':=Aside0.mk H;clear H;have:=NB402_403.out;have:=NB403_402.out;obtain ⟨h15_0,h15_1,h15_2,h15_3⟩:=kb4 BK402.out
     go_wp2
     go_meet
     case rel=>exact ⟨_,((a0_0 == 3)),(cl2),H',⟨by first|omega|exact Nat.le_refl _⟩,⟨bk BK402.out⟩,⟨bk BK403.out⟩,⟨bl HB.out⟩⟩
   case rest =>
    clear HC7;(try clear c6);(try clear c6b0);(try clear c6b1);(try clear c6b2);(try clear h10_0 h10_1 h10_2 h10_3);(try clear h9_0 h9_1 h9_2 h9_3);(try clear BK402);(try clear BK403);(try clear HB);obtain ⟨kq,x17_6,rfl,HA,HJ6,BK402,BK403,HB⟩:=hcut
    cases kq with
    | zero=>exact absurd HA.out (by simp [spec_LessTerm.j0])
    | succ kj6 =>
     have H:=HA.out;clear HA;simp only [spec_LessTerm.j0] at H
     by_cases c16:x17_6 = true
     ·subst c16
      have H1:(some (decide (a0_1 < a1_1))) = some r:=by rw [if_pos rfl] at H;exact H
      clear H;have H:=H1;clear H1;obtain rfl:=Option.some.inj H;have:=NB402_403.out;have:=NB403_402.out;obtain ⟨h18_0,h18_1,h18_2,h18_3⟩:=kb4 BK402.out;obtain ⟨h19_0,h19_1,h19_2,h19_3⟩:=kb4 BK403.out
      go_wp2
      go_ret
      exact ⟨cl,bl HB.out⟩
     ·replace c16:=Bool.eq_false_iff.mpr c16
      subst c16;have H1:(if a0_0 = 2 then (some (Op.bytesLess a0_2.toList a1_2.toList)) else (if a0_0 = 4 then (if (l0_3.length:Int) = (l1_3.length:Int) then (spec_LessTerm.j1 kj6 a0_0 a0_1 a0_2 l0_3 a1_0 a1_1 a1_2 l1_3) else (some (decide ((l0_3.length:Int) < (l1_3.length:Int))))) else (spec_LessTerm.j1 kj6 a0_0 a0_1 a0_2 l0_3 a1_0 a1_1 a1_2 l1_3))) = some r:=by rw [if_neg (show ¬ (false = true) by decide)] at H;exact H
      clear H;have H:=H1;clear H1
      by_cases c20:a0_0 = 2
      ·rw [if_pos c20] at H
       have c20b0:(a0_0 == 2) = true:=beq_iff_eq.mpr c20;have c20b1:(a0_0 != 2) = false:=bne_eq_false_iff_eq.mpr c20;clear c20;obtain rfl:=Option.some.inj H;have:=NB402_403.out;have:=NB403_402.out;obtain ⟨h22_0,h22_1,h22_2,h22_3⟩:=kb4 BK402.out;obtain ⟨h23_0,h23_1,h23_2,h23_3⟩:=kb4 BK403.out
       go_wp2
       go_ret
       exact ⟨cl,bl HB.out⟩
      ·rw [if_neg c20] at H
       have c20b0:(a0_0 == 2) = false:=beq_eq_false_iff_ne.mpr c20;have c20b1:(a0_0 != 2) = true:=bne_iff_ne.mpr c20
       by_cases c24:a0_0 = 4
       ·rw [if_pos c24] at H
        have c24b0:(a0_0 == 4) = true:=beq_iff_eq.mpr c24;have c24b1:(a0_0 != 4) = false:=bne_eq_false_iff_eq.mpr c24;clear c24
        by_cases c25:(l0_3.length:Int) = (l1_3.length:Int)
        ·rw [if_pos c25] at H
         have c25b0:((l0_3.length:Int) == (l1_3.length:Int)) = true:=beq_iff_eq.mpr c25;have c25b1:((l0_3.length:Int) != (l1_3.length:Int)) = false:=bne_eq_false_iff_eq.mpr c25;have c25b2:(l0_3.length == l1_3.length) = true:=by first|simpa using c25|(simp at c25 ⊢;omega)
         clear c25;have H':=Aside0.mk H;clear H;have:=NB402_403.out;have:=NB403_402.out;obtain ⟨h27_0,h27_1,h27_2,h27_3⟩:=kb4 BK402.out;obtain ⟨h28_0,h28_1,h28_2,h28_3⟩:=kb4 BK403.out
         go_wp2
         go_meet
         case rel=>exact ⟨_,H',⟨by have:=HJ6.out;first|omega|exact Nat.le_refl _⟩,⟨bk BK402.out⟩,⟨bk BK403.out⟩,⟨bl HB.out⟩⟩
        ·rw [if_neg c25] at H
         have c25b0:((l0_3.length:Int) == (l1_3.length:Int)) = false:=beq_eq_false_iff_ne.mpr c25;have c25b1:((l0_3.length:Int) != (l1_3.length:Int)) = true:=bne_iff_ne.mpr c25;have c25b2:(l0_3.length == l1_3.length) = false:=by first|simpa using c25|(simp at c25 ⊢;omega)
         obtain rfl:=Option.some.inj H;have:=NB402_403.out;have:=NB403_402.out;obtain ⟨h30_0,h30_1,h30_2,h30_3⟩:=kb4 BK402.out;obtain ⟨h31_0,h31_1,h31_2,h31_3⟩:=kb4 BK403.out
         go_wp2
         go_ret
         exact ⟨cl,bl HB.out⟩
       ·rw [if_neg c24] at H
        have c24b0:(a0_0 == 4) = false:=beq_eq_false_iff_ne.mpr c24;have c24b1:(a0_0 != 4) = true:=bne_iff_ne.mpr c24;have H':=Aside0.mk H;clear H;have:=NB402_403.out;have:=NB403_402.out;obtain ⟨h33_0,h33_1,h33_2,h33_3⟩:=kb4 BK402.out
        go_wp2
        go_meet
        case rel=>exact ⟨_,H',⟨by have:=HJ6.out;first|omega|exact Nat.le_refl _⟩,⟨bk BK402.out⟩,⟨bk BK403.out⟩,⟨bl HB.out⟩⟩
  ·rw [if_neg c6] at H
   have c6b0:(a0_0 == a1_0) = false:=beq_eq_false_iff_ne.mpr c6;have c6b1:(a0_0 != a1_0) = true:=bne_iff_ne.mpr c6
   (first|rw [c6b0]|(simp only [i64_w,i32_w];rw [c6b0])|(simp only [c6b2,Bool.not_true,Bool.not_false])|skip)
   obtain rfl:=Option.some.inj H;have:=NB402_403.out;have:=NB403_402.out;obtain ⟨h35_0,h35_1,h35_2,h35_3⟩:=kb4 BK402.out;obtain ⟨h36_0,h36_1,h36_2,h36_3⟩:=kb4 BK403.out
   go_wp2
   go_ret
   exact ⟨cl,bl HB.out⟩
 case rest =>
  clear HC3
  (try clear BK402);(try clear BK403);(try clear HB);obtain ⟨kq,HA,HJ2,BK402,BK403,HB⟩:=hcut
  cases kq with
  | zero=>exact absurd HA.out (by simp [spec_LessTerm.j1])
  | succ kj2 =>
   have H:=HA.out;clear HA;simp only [spec_LessTerm.j1] at H;have H':=Aside0.mk H;clear H
   go_wp2
   go_loopg [5] kj2 (fun kq v5 w'=>∃ (x5_2:Int),v5 = .int .i64 x5_2∧Aside0 (spec_LessTerm.l0 kq x5_2 a0_0 a0_1 a0_2 l0_3 a1_0 a1_1 a1_2 l1_3 = some r)∧Aside0 (kq≤kj2)∧Aside0 (w'.heap[gb402]? = some (.cells #[.int .i64 a0_0,.int .i64 a0_1,.string a0_2,(.slice A0_3 l0_3.length c0_3)] 26 (0,0)))∧Aside0 (w'.heap[gb403]? = some (.cells #[.int .i64 a1_0,.int .i64 a1_1,.string a1_2,(.slice A1_3 l1_3.length c1_3)] 26 (0,0)))∧Aside0 (Below w.heap.size w w'))
   case atStart=>exact ⟨(0),(cl2),H',⟨Nat.le_refl _⟩,⟨bk BK402.out⟩,⟨bk BK403.out⟩,⟨bl HB.out⟩⟩
   case round =>
    clear H'
    (try clear BK402);(try clear BK403);(try clear HB);obtain ⟨x5_2,rfl,HA,HK2,BK402,BK403,HB⟩:=hrel
    cases gk with
    | zero=>exact absurd HA.out (by simp [spec_LessTerm.l0])
    | succ k2 =>
     have H:=HA.out;clear HA;simp only [spec_LessTerm.l0] at H;have HC37:=Aside0.mk H;clear H
     go_upto_region 10 with (fail)
     go_cut [71] (fun v71 wc=>∃ (kq:Nat) (x71_36:Bool),v71 = .bool x71_36∧Aside0 (spec_LessTerm.j3 kq x5_2 x71_36 a0_0 a0_1 a0_2 l0_3 a1_0 a1_1 a1_2 l1_3 = some r)∧Aside0 (kq≤k2)∧Aside0 (wc.heap[gb402]? = some (.cells #[.int .i64 a0_0,.int .i64 a0_1,.string a0_2,(.slice A0_3 l0_3.length c0_3)] 26 (0,0)))∧Aside0 (wc.heap[gb403]? = some (.cells #[.int .i64 a1_0,.int .i64 a1_1,.string a1_2,(.slice A1_3 l1_3.length c1_3)] 26 (0,0)))∧Aside0 (Below w.heap.size w wc))
     case first =>
      have H:=HC37.out;clear HC37
      by_cases c38:x5_2 < (l0_3.length:Int)
      ·rw [if_pos c38] at H
       have c38b0:decide (x5_2 < (l0_3.length:Int)) = true:=decide_eq_true c38;clear c38
       (first|rw [c38b0]|(simp only [i64_w,i32_w];rw [c38b0])|(simp only [c38b2,Bool.not_true,Bool.not_false])|skip)
       have H':=Aside0.mk H;clear H;have:=NB402_403.out;have:=NB403_402.out;obtain ⟨h40_0,h40_1,h40_2,h40_3⟩:=kb4 BK402.out;obtain ⟨h41_0,h41_1,h41_2,h41_3⟩:=kb4 BK403.out
       go_wp2
       go_meet
       case rel=>exact ⟨_,(decide (x5_2 < (l1_3.length:Int))),(cl2),H',⟨by have:=HJ2.out;have:=HK2.out;first|omega|exact Nat.le_refl _⟩,⟨bk BK402.out⟩,⟨bk BK403.out⟩,⟨bl HB.out⟩⟩
      ·rw [if_neg c38] at H
       have c38b0:decide (x5_2 < (l0_3.length:Int)) = false:=decide_eq_false c38;clear c38
       (first|rw [c38b0]|(simp only [i64_w,i32_w];rw [c38b0])|(simp only [c38b2,Bool.not_true,Bool.not_false])|skip)
       have H':=Aside0.mk H;clear H;have:=NB402_403.out;have:=NB403_402.out;obtain ⟨h43_0,h43_1,h43_2,h43_3⟩:=kb4 BK402.out
       go_wp2
       go_meet
       case rel=>exact ⟨_,(false),(cl2),H',⟨by have:=HJ2.out;have:=HK2.out;first|omega|exact Nat.le_refl _⟩,⟨bk BK402.out⟩,⟨bk BK403.out⟩,⟨bl HB.out⟩⟩
     case rest =>
      clear HC37
      (try clear BK402);(try clear BK403);(try clear HB);obtain ⟨kq,x71_36,rfl,HA,HJ36,BK402,BK403,HB⟩:=hcut
      cases kq with
      | zero=>exact absurd HA.out (by simp [spec_LessTerm.j3])
      | succ kj36 =>
       have H:=HA.out;clear HA;simp only [spec_LessTerm.j3] at H
       by_cases c44:x71_36 = true
       ·subst c44
        have H1:(if 0≤x5_2 then (if x5_2 < (l0_3.length:Int) then (if x5_2 < (l1_3.length:Int) then ((spec_SameTerm.f kj36 ((rd_T26 l0_3 x5_2).f0) ((rd_T26 l0_3 x5_2).f1) ((rd_T26 l0_3 x5_2).f2) ((rd_T26 l0_3 x5_2).f3) ((rd_T26 l1_3 x5_2).f0) ((rd_T26 l1_3 x5_2).f1) ((rd_T26 l1_3 x5_2).f2) ((rd_T26 l1_3 x5_2).f3)).bind fun t406=>(if t406 = true then (spec_LessTerm.l0 kj36 (wrap64 (x5_2 + 1)) a0_0 a0_1 a0_2 l0_3 a1_0 a1_1 a1_2 l1_3) else ((spec_LessTerm.f kj36 ((rd_T26 l0_3 x5_2).f0) ((rd_T26 l0_3 x5_2).f1) ((rd_T26 l0_3 x5_2).f2) ((rd_T26 l0_3 x5_2).f3) ((rd_T26 l1_3 x5_2).f0) ((rd_T26 l1_3 x5_2).f1) ((rd_T26 l1_3 x5_2).f2) ((rd_T26 l1_3 x5_2).f3)).bind fun t409=>(some t409)))) else (none)) else (none)) else (none)) = some r:=by rw [if_pos rfl] at H;exact H
        clear H;have H:=H1;clear H1
        by_cases c45:0≤x5_2
        ·rw [if_pos c45] at H
         have c45b0:decide (0≤x5_2) = true:=decide_eq_true c45;clear c45
         by_cases c46:x5_2 < (l0_3.length:Int)
         ·rw [if_pos c46] at H
          have c46b0:decide (x5_2 < (l0_3.length:Int)) = true:=decide_eq_true c46;clear c46
          by_cases c47:x5_2 < (l1_3.length:Int)
          ·rw [if_pos c47] at H
           have c47b0:decide (x5_2 < (l1_3.length:Int)) = true:=decide_eq_true c47;clear c47;replace H:=Option.bind_eq_some_iff.mp H;obtain ⟨t406,A480,H⟩:=H;replace H:(if t406 = true then (spec_LessTerm.l0 kj36 (wrap64 (x5_2 + 1)) a0_0 a0_1 a0_2 l0_3 a1_0 a1_1 a1_2 l1_3) else ((spec_LessTerm.f kj36 ((rd_T26 l0_3 x5_2).f0) ((rd_T26 l0_3 x5_2).f1) ((rd_T26 l0_3 x5_2).f2) ((rd_T26 l0_3 x5_2).f3) ((rd_T26 l1_3 x5_2).f0) ((rd_T26 l1_3 x5_2).f1) ((rd_T26 l1_3 x5_2).f2) ((rd_T26 l1_3 x5_2).f3)).bind fun t409=>(some t409))) = some r:=H;have A48:=Aside0.mk A480;clear A480
           try go_wp2
           have n_:=ai (dk BK402) <| ai (dk BK403) <| dh HB;clear BK402 BK403 HB;obtain ⟨BK402,BK403,HB⟩:=n_;have p404:0≤(x5_2:Int):=od;have q404:x5_2 < (l0_3.length:Int):=od;obtain ⟨ad404,A404_3,c404_3,e404,hx404_0,hx404_1,hx404_2,hx404_3,hl404_3,hi404_3⟩:=at_T26 HR0_3.out x5_2 p404 q404;have hw404_3:=hx404_3;have hw404_2:=hx404_2;have hw404_1:=hx404_1;have hw404_0:=hx404_0;cases e404;replace hx404_0:=cb HB hx404_0;replace hx404_1:=cb HB hx404_1;replace hx404_2:=cb HB hx404_2;replace hx404_3:=cb HB hx404_3;have HR404_3:=Aside0.mk hi404_3;have HC404_3:=Aside0.mk hl404_3;clear hi404_3 hl404_3;replace p404:=eq_true p404;replace q404:=eq_true q404;have p405:0≤(x5_2:Int):=od;have q405:x5_2 < (l1_3.length:Int):=od;obtain ⟨ad405,A405_3,c405_3,e405,hx405_0,hx405_1,hx405_2,hx405_3,hl405_3,hi405_3⟩:=at_T26 HR1_3.out x5_2 p405 q405;have hw405_3:=hx405_3;have hw405_2:=hx405_2;have hw405_1:=hx405_1;have hw405_0:=hx405_0;cases e405;replace hx405_0:=cb HB hx405_0;replace hx405_1:=cb HB hx405_1;replace hx405_2:=cb HB hx405_2;replace hx405_3:=cb HB hx405_3;have HR405_3:=Aside0.mk hi405_3;have HC405_3:=Aside0.mk hl405_3;clear hi405_3 hl405_3;replace p405:=eq_true p405;replace q405:=eq_true q405
           refine start_ (n:=12) (S:=fun w'=>(w'.cell? ⟨gb402,0,none⟩ = some (.int .i64 a0_0)∧w'.cell? ⟨gb402,1,none⟩ = some (.int .i64 a0_1)∧w'.cell? ⟨gb402,2,none⟩ = some (.string a0_2)∧w'.cell? ⟨gb402,3,none⟩ = some (.slice (some ad404) l0_3.length c0_3))∧(w'.cell? ⟨gb403,0,none⟩ = some (.int .i64 a1_0)∧w'.cell? ⟨gb403,1,none⟩ = some (.int .i64 a1_1)∧w'.cell? ⟨gb403,2,none⟩ = some (.string a1_2)∧w'.cell? ⟨gb403,3,none⟩ = some (.slice (some ad405) l1_3.length c1_3))∧w'.cell? (ad404.add ((x5_2).toNat * 4)) = some (.int .i64 ((rd_T26 l0_3 x5_2).f0))∧w'.cell? ⟨(ad404.add ((x5_2).toNat * 4)).block,(ad404.add ((x5_2).toNat * 4)).off + 1,none⟩ = some (.int .i64 ((rd_T26 l0_3 x5_2).f1))∧w'.cell? ⟨(ad404.add ((x5_2).toNat * 4)).block,(ad404.add ((x5_2).toNat * 4)).off + 2,none⟩ = some (.string ((rd_T26 l0_3 x5_2).f2))∧w'.cell? ⟨(ad404.add ((x5_2).toNat * 4)).block,(ad404.add ((x5_2).toNat * 4)).off + 3,none⟩ = some (.slice A404_3 ((rd_T26 l0_3 x5_2).f3).length c404_3)∧w'.cell? (ad405.add ((x5_2).toNat * 4)) = some (.int .i64 ((rd_T26 l1_3 x5_2).f0))∧w'.cell? ⟨(ad405.add ((x5_2).toNat * 4)).block,(ad405.add ((x5_2).toNat * 4)).off + 1,none⟩ = some (.int .i64 ((rd_T26 l1_3 x5_2).f1))∧w'.cell? ⟨(ad405.add ((x5_2).toNat * 4)).block,(ad405.add ((x5_2).toNat * 4)).off + 2,none⟩ = some (.string ((rd_T26 l1_3 x5_2).f2))∧w'.cell? ⟨(ad405.add ((x5_2).toNat * 4)).block,(ad405.add ((x5_2).toNat * 4)).off + 3,none⟩ = some (.slice A405_3 ((rd_T26 l1_3 x5_2).f3).length c405_3)) (ds:=[]) #[false,false,false,false,false,false,false,false,false,false,false,false] (by kernel_rfl) rfl rfl ⟨kb4 BK402.out,kb4 BK403.out,(cb HB hw404_0 :),(cb HB hw404_1 :),(cb HB hw404_2 :),(cb HB hw404_3 :),(cb HB hw405_0 :),(cb HB hw405_1 :),(cb HB hw405_2 :),(cb HB hw405_3 :)⟩ (fun hHeld=>?_);refine with_tabW spec_LessTerm.tab12 spec_LessTerm.bits12 (fun HT_ HW_=>?_)
           generalize wc.drew = w50 at BK402 BK403 HB HR404_3 HR405_3 hx404_0 hx404_1 hx404_2 hx404_3 hx405_0 hx405_1 hx405_2 hx405_3 hHeld ⊢;refine pu 0 74 ?_;refine pu 2 76 ?_;refine pu 5 79 ?_;refine pu 7 81 ?_;refine ta 1 75 hHeld ?_;refine pu 3 77 ?_;refine ta 4 78 hHeld ?_;refine ta 6 80 hHeld ?_;refine pu 8 82 ?_;refine ta 9 83 hHeld ?_
           refine one_ (i:=10) (N:=some 84) #[true,true,true,true,true,true,true,true,true,true,true,false] rfl rfl (one_of HT_.out (by kernel_rfl)) (by decide) (fun K hK=>?_)
           refine goes_ Try.func31 (by kernel_rfl) rfl #[.agg #[.int .i64 ((rd_T26 l0_3 x5_2).f0),.int .i64 ((rd_T26 l0_3 x5_2).f1),.string ((rd_T26 l0_3 x5_2).f2),.slice A404_3 ((rd_T26 l0_3 x5_2).f3).length c404_3],.agg #[.int .i64 ((rd_T26 l1_3 x5_2).f0),.int .i64 ((rd_T26 l1_3 x5_2).f1),.string ((rd_T26 l1_3 x5_2).f2),.slice A405_3 ((rd_T26 l1_3 x5_2).f3).length c405_3]] (by rfl) rfl rfl gs ?_
           with_reducible refine (spec_SameTerm.calls kj36 ((rd_T26 l0_3 x5_2).f0) ((rd_T26 l0_3 x5_2).f1) ((rd_T26 l0_3 x5_2).f2) _ _ ((rd_T26 l0_3 x5_2).f3) ((rd_T26 l1_3 x5_2).f0) ((rd_T26 l1_3 x5_2).f1) ((rd_T26 l1_3 x5_2).f2) _ _ ((rd_T26 l1_3 x5_2).f3) t406 _ ?side1 ?side2 ?side3 ?side4 A48.out).mono ?_
           (case side1=>exact ck (Kd.C_below HR404_3.out HB.out))
           (case side2=>exact HC404_3.out)
           (case side3=>exact ck (Kd.C_below HR405_3.out HB.out))
           (case side4=>exact HC405_3.out)
           rintro e w51 ⟨rfl,hb⟩
           refine ⟨_,rfl,?_⟩
           have n_:=ai (bw BK402 hb) <| ai (bw BK403 hb) <| bq HB hb;clear BK402 BK403 HB;obtain ⟨BK402,BK403,HB⟩:=n_;(try clear hb)
           refine hK.out _ _ ⟨kb4 BK402.out,kb4 BK403.out,(cb HB hw404_0 :),(cb HB hw404_1 :),(cb HB hw404_2 :),(cb HB hw404_3 :),(cb HB hw405_0 :),(cb HB hw405_1 :),(cb HB hw405_2 :),(cb HB hw405_3 :)⟩ (fun hHeld=>?_)
           clear hK K
           refine norm_ (a':=?_) ?_ ?_
           rotate_left
           ·show Act.put _ (some 84) _ = _
            simp only [Act.put,List.setIfInBounds_toArray,List.set_cons_zero,List.set_cons_succ,i64_w,i32_w]
            rfl
           refine pu 11 85 ?_
           refine done_ (done_of HT_.out (by kernel_rfl)) ?_
           by_cases c49:t406 = true
           ·subst c49
            have H1:(spec_LessTerm.l0 kj36 (wrap64 (x5_2 + 1)) a0_0 a0_1 a0_2 l0_3 a1_0 a1_1 a1_2 l1_3) = some r:=by rw [if_pos rfl] at H;exact H
            clear H;have H:=H1;clear H1;have H':=Aside0.mk H;clear H
            try go_wp2
            go_roundg kj36
            case measure=>have:=HJ2.out;have:=HK2.out;have:=HJ36.out;omega
            case rel=>exact ⟨(wrap64 (x5_2 + 1)),(cl2),H',⟨by have:=HJ2.out;have:=HK2.out;have:=HJ36.out;omega⟩,⟨bk BK402.out⟩,⟨bk BK403.out⟩,⟨bl HB.out⟩⟩
           ·replace c49:=Bool.eq_false_iff.mpr c49
            subst c49;have H1:((spec_LessTerm.f kj36 ((rd_T26 l0_3 x5_2).f0) ((rd_T26 l0_3 x5_2).f1) ((rd_T26 l0_3 x5_2).f2) ((rd_T26 l0_3 x5_2).f3) ((rd_T26 l1_3 x5_2).f0) ((rd_T26 l1_3 x5_2).f1) ((rd_T26 l1_3 x5_2).f2) ((rd_T26 l1_3 x5_2).f3)).bind fun t409=>(some t409)) = some r:=by rw [if_neg (show ¬ (false = true) by decide)] at H;exact H
            clear H;have H:=H1;clear H1;replace H:=Option.bind_eq_some_iff.mp H;obtain ⟨t409,A520,H⟩:=H;replace H:(some t409) = some r:=H;have A52:=Aside0.mk A520;clear A520;obtain rfl:=Option.some.inj H
            try go_wp2
            have n_:=ai (dk BK402) <| ai (dk BK403) <| dh HB;clear BK402 BK403 HB;obtain ⟨BK402,BK403,HB⟩:=n_;have p407:0≤(x5_2:Int):=od;have q407:x5_2 < (l0_3.length:Int):=od;obtain ⟨ad407,A407_3,c407_3,e407,hx407_0,hx407_1,hx407_2,hx407_3,hl407_3,hi407_3⟩:=at_T26 HR0_3.out x5_2 p407 q407;have hw407_3:=hx407_3;have hw407_2:=hx407_2;have hw407_1:=hx407_1;have hw407_0:=hx407_0;obtain rfl:ad404 = ad407:=(by injection e407);replace hx407_0:=cb HB hx407_0;replace hx407_1:=cb HB hx407_1;replace hx407_2:=cb HB hx407_2;replace hx407_3:=cb HB hx407_3;have HR407_3:=Aside0.mk hi407_3;have HC407_3:=Aside0.mk hl407_3;clear hi407_3 hl407_3;replace p407:=eq_true p407;replace q407:=eq_true q407;have p408:0≤(x5_2:Int):=od;have q408:x5_2 < (l1_3.length:Int):=od;obtain ⟨ad408,A408_3,c408_3,e408,hx408_0,hx408_1,hx408_2,hx408_3,hl408_3,hi408_3⟩:=at_T26 HR1_3.out x5_2 p408 q408;have hw408_3:=hx408_3;have hw408_2:=hx408_2;have hw408_1:=hx408_1;have hw408_0:=hx408_0;obtain rfl:ad405 = ad408:=(by injection e408);replace hx408_0:=cb HB hx408_0;replace hx408_1:=cb HB hx408_1;replace hx408_2:=cb HB hx408_2;replace hx408_3:=cb HB hx408_3;have HR408_3:=Aside0.mk hi408_3;have HC408_3:=Aside0.mk hl408_3;clear hi408_3 hl408_3;replace p408:=eq_true p408;replace q408:=eq_true q408
            refine start_ (n:=12) (S:=fun w'=>(w'.cell? ⟨gb402,0,none⟩ = some (.int .i64 a0_0)∧w'.cell? ⟨gb402,1,none⟩ = some (.int .i64 a0_1)∧w'.cell? ⟨gb402,2,none⟩ = some (.string a0_2)∧w'.cell? ⟨gb402,3,none⟩ = some (.slice (some ad404) l0_3.length c0_3))∧(w'.cell? ⟨gb403,0,none⟩ = some (.int .i64 a1_0)∧w'.cell? ⟨gb403,1,none⟩ = some (.int .i64 a1_1)∧w'.cell? ⟨gb403,2,none⟩ = some (.string a1_2)∧w'.cell? ⟨gb403,3,none⟩ = some (.slice (some ad405) l1_3.length c1_3))∧w'.cell? (ad404.add ((x5_2).toNat * 4)) = some (.int .i64 ((rd_T26 l0_3 x5_2).f0))∧w'.cell? ⟨(ad404.add ((x5_2).toNat * 4)).block,(ad404.add ((x5_2).toNat * 4)).off + 1,none⟩ = some (.int .i64 ((rd_T26 l0_3 x5_2).f1))∧w'.cell? ⟨(ad404.add ((x5_2).toNat * 4)).block,(ad404.add ((x5_2).toNat * 4)).off + 2,none⟩ = some (.string ((rd_T26 l0_3 x5_2).f2))∧w'.cell? ⟨(ad404.add ((x5_2).toNat * 4)).block,(ad404.add ((x5_2).toNat * 4)).off + 3,none⟩ = some (.slice A407_3 ((rd_T26 l0_3 x5_2).f3).length c407_3)∧w'.cell? (ad405.add ((x5_2).toNat * 4)) = some (.int .i64 ((rd_T26 l1_3 x5_2).f0))∧w'.cell? ⟨(ad405.add ((x5_2).toNat * 4)).block,(ad405.add ((x5_2).toNat * 4)).off + 1,none⟩ = some (.int .i64 ((rd_T26 l1_3 x5_2).f1))∧w'.cell? ⟨(ad405.add ((x5_2).toNat * 4)).block,(ad405.add ((x5_2).toNat * 4)).off + 2,none⟩ = some (.string ((rd_T26 l1_3 x5_2).f2))∧w'.cell? ⟨(ad405.add ((x5_2).toNat * 4)).block,(ad405.add ((x5_2).toNat * 4)).off + 3,none⟩ = some (.slice A408_3 ((rd_T26 l1_3 x5_2).f3).length c408_3)) (ds:=[]) #[false,false,false,false,false,false,false,false,false,false,false,false] (by kernel_rfl) rfl rfl ⟨kb4 BK402.out,kb4 BK403.out,(cb HB hw407_0 :),(cb HB hw407_1 :),(cb HB hw407_2 :),(cb HB hw407_3 :),(cb HB hw408_0 :),(cb HB hw408_1 :),(cb HB hw408_2 :),(cb HB hw408_3 :)⟩ (fun hHeld=>?_);refine with_tabW spec_LessTerm.tab13 spec_LessTerm.bits13 (fun HT_ HW_=>?_)
            generalize w51.drew = w55 at BK402 BK403 HB HR407_3 HR408_3 hx407_0 hx407_1 hx407_2 hx407_3 hx408_0 hx408_1 hx408_2 hx408_3 hHeld ⊢;refine pu 0 86 ?_;refine pu 2 88 ?_;refine pu 5 91 ?_;refine pu 7 93 ?_;refine ta 1 87 hHeld ?_;refine pu 3 89 ?_;refine ta 4 90 hHeld ?_;refine ta 6 92 hHeld ?_;refine pu 8 94 ?_;refine ta 9 95 hHeld ?_
            refine one_ (i:=10) (N:=some 96) #[true,true,true,true,true,true,true,true,true,true,true,false] rfl rfl (one_of HT_.out (by kernel_rfl)) (by decide) (fun K hK=>?_)
            refine goes_ Try.func32 (by kernel_rfl) rfl #[.agg #[.int .i64 ((rd_T26 l0_3 x5_2).f0),.int .i64 ((rd_T26 l0_3 x5_2).f1),.string ((rd_T26 l0_3 x5_2).f2),.slice A407_3 ((rd_T26 l0_3 x5_2).f3).length c407_3],.agg #[.int .i64 ((rd_T26 l1_3 x5_2).f0),.int .i64 ((rd_T26 l1_3 x5_2).f1),.string ((rd_T26 l1_3 x5_2).f2),.slice A408_3 ((rd_T26 l1_3 x5_2).f3).length c408_3]] (by rfl) rfl rfl gs ?_
            with_reducible refine (ih kj36 (by have:=HJ2.out;have:=HK2.out;have:=HJ36.out;omega) ((rd_T26 l0_3 x5_2).f0) ((rd_T26 l0_3 x5_2).f1) ((rd_T26 l0_3 x5_2).f2) _ _ ((rd_T26 l0_3 x5_2).f3) ((rd_T26 l1_3 x5_2).f0) ((rd_T26 l1_3 x5_2).f1) ((rd_T26 l1_3 x5_2).f2) _ _ ((rd_T26 l1_3 x5_2).f3) t409 _ ?side1 ?side2 ?side3 ?side4 A52.out).mono ?_
            (case side1=>exact ck (Kd.C_below HR407_3.out HB.out))
            (case side2=>exact HC407_3.out)
            (case side3=>exact ck (Kd.C_below HR408_3.out HB.out))
            (case side4=>exact HC408_3.out)
            rintro e w56 ⟨rfl,hb⟩
            refine ⟨_,rfl,?_⟩
            have n_:=ai (bw BK402 hb) <| ai (bw BK403 hb) <| bq HB hb;clear BK402 BK403 HB;obtain ⟨BK402,BK403,HB⟩:=n_;(try clear hb)
            refine hK.out _ _ ⟨kb4 BK402.out,kb4 BK403.out,(cb HB hw407_0 :),(cb HB hw407_1 :),(cb HB hw407_2 :),(cb HB hw407_3 :),(cb HB hw408_0 :),(cb HB hw408_1 :),(cb HB hw408_2 :),(cb HB hw408_3 :)⟩ (fun hHeld=>?_)
            clear hK K
            refine norm_ (a':=?_) ?_ ?_
            rotate_left
            ·show Act.put _ (some 96) _ = _
             simp only [Act.put,List.setIfInBounds_toArray,List.set_cons_zero,List.set_cons_succ,i64_w,i32_w]
             rfl
            refine pu 11 4 ?_
            refine done_ (done_of HT_.out (by kernel_rfl)) ?_
            try go_wp2
            go_ret
            exact ⟨cl,bl HB.out⟩
          ·rw [if_neg c47] at H
           exact absurd H (by simp)
         ·rw [if_neg c46] at H
          exact absurd H (by simp)
        ·rw [if_neg c45] at H
         exact absurd H (by simp)
       ·replace c44:=Bool.eq_false_iff.mpr c44
        subst c44;have H1:(some (decide ((l0_3.length:Int) < (l1_3.length:Int)))) = some r:=by rw [if_neg (show ¬ (false = true) by decide)] at H;exact H
        clear H;have H:=H1;clear H1;obtain rfl:=Option.some.inj H;have:=NB402_403.out;have:=NB403_402.out;obtain ⟨h58_0,h58_1,h58_2,h58_3⟩:=kb4 BK402.out;obtain ⟨h59_0,h59_1,h59_2,h59_3⟩:=kb4 BK403.out
        go_wp2
        go_ret
        exact ⟨cl,bl HB.out⟩

end Go.Proofs.Ytbdbbgiglojnfaa.QFnOperated
